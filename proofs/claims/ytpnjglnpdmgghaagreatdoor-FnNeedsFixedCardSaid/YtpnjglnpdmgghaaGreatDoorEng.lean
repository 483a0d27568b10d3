/- The proof engine: what a function of the model computes, said by a plain function; no condition. -/
import Derived.Test.YtpnjglnpdmgghaaGreatDoorEngA
set_option linter.all false
namespace Go.Eng
open Go Go.RowKit
/-! ## Own slices of own slices: built by literals and appends, written by calls -/
def TE:FC Value where
 n:=1
 rep:=fun _ _ x vs=>vs=[x]∧x.oneCell'=true
 len:=fun h=>by rw [h.1];rfl
 one:=fun h=>by rw [h.1];simp [h.2]
 mono:=fun h _ _=>h
instance:Fy TE:=⟨fun h=>h⟩
theorem jH{w:World}{B:Nat}{S:Nat->Prop}{e:TypeId}{vs:List Value}{v:Value}(h:AS TE w B S e vs v):w.ownsRow B e 1 v vs.length vs:=by
 obtain⟨cs,E,I⟩:=h
 have hl:cs.length=vs.length:=by have:=E.1;simpa [TE] using this
 have e1:cs=vs:=by
  apply Cl
  intro i
  by_cases hi:i<vs.length
  ·have J:=(I i vs[i] (AK hi)).1
   have F:(CG cs 1 i)[0]? =some vs[i]:=by rw [show CG cs 1 i=[vs[i]]from J];rfl
   rw [DM (by omega)]at F
   rw [AK hi,←F];congr 1;omega
  ·rw [BM (by omega),BM (by omega)]
 rw [e1]at E;exact E
section
variable {α:Type} {c:FC α} [Fy c] {w w':World} {B B1 B2 hi lo1 hi1 lo2 hi2:Nat} {S:Nat -> Prop} {e1 e2:TypeId} {xss:List (List α)} {xs ys:List α} {v u t:Value} {vs:List Value}
theorem own2.raw(h:own2 c w B hi e1 e2 xss v vs):AS TE w B (Iv 0 0) e1 vs v:=by
 have hl:vs.length=xss.length:=by have:=h.1.1;omega
 have F:=h.1
 rw [←hl]at F
 refine⟨vs,F,fun i x E=>⟨lI E,?_⟩⟩
 have hi:i<xss.length:=by have:=(AR.1 E).1;omega
 exact(h.2.1 i _ x (AK hi) E).1.one
theorem own2.of(h:AS TE w B S e1 vs v)(hl:vs.length=xss.length)(E:∀(i:Nat) (xs:List α) (u:Value),xss[i]? =some xs->vs[i]? =some u->AS c w B (Iv 0 0) e2 xs u∧Bd u B hi∧No v u)
 (J:∀(i j:Nat) (u F:Value),i≠j->vs[i]? =some u->vs[j]? =some F->No u F):own2 c w B hi e1 e2 xss v vs:=by
 have I:=jH h
 rw [hl]at I
 exact⟨I,E,J⟩
theorem own2.base{E:Nat}(h:own2 c w B hi e1 e2 xss v vs)(F:E<=B):own2 c w E hi e1 e2 xss v vs:=by
 refine own2.of (AS.base h.raw F) (by have:=h.1.1;omega) (fun i xs u J hu=>?_) h.2.2
 obtain⟨p,q,r⟩:=h.2.1 i xs u J hu
 exact⟨p.base F,fun g I=>by have:=q g I;omega,r⟩
theorem own2.lit0(h:AS TE w B S e1 [] v):own2 c w B hi e1 e2 ([]:List (List α)) v []:=
 own2.of h rfl (fun i xs u E=>by simp at E) (fun i j u F _ E=>by simp at E)
theorem own2.lit1{g:Nat}(h:AS TE w g S e1 [u] v)(Y:AS c w B1 (Iv 0 0) e2 xs u)(hb:Bd v g (g+1))(U:Bd u lo1 hi1)(Z:B<=B1)(hg:B<=g)(hl:B<=lo1)(hh:hi1<=g):own2 c w B g e1 e2 [xs] v [u]:=by
 refine own2.of (AS.base h hg) rfl (fun i x t W I=>?_) (fun i j t t' J I E=>?_)
 ·match i with
  |0=>
   obtain rfl:xs=x:=Ai W
   obtain rfl:u=t:=Ai I
   exact⟨Y.base Z,fun q F=>by have:=U q F;omega,fun q q' F O=>by have:=hb q F;have:=U q' O;omega⟩
  |i+1=>simp at W
 ·match i,j with
  |0,0=>exact absurd rfl J
  |0,j+1=>simp at E
  |i+1,_=>simp at I
end
theorem bA{α β:Type}{xs ys zs:List α}{vs us:List β}{k:Nat}(h:EU xs ys k=some zs)(E:vs.length=xs.length)(F:us.length=ys.length):EU vs us k=some (vs++us)∧zs=xs++ys:=by
 unfold EU at h ⊢
 rw [E,F]
 split at h
 ·rename_i hc
  rw [BE hc];exact⟨rfl,(Ai h).symm⟩
 ·cases h
section
variable {P:Program} {N:Nat} {K:KL} {o:Oper} {α:Type} {c:FC α} [Fy c] {w:World} {B hi B2 hi2:Nat} {e1 e2:TypeId} {xss yss zss:List (List α)} {v u:Value} {vs us:List Value}
theorem Rm{t x y zc sz by'}(ho:o.op= .call { callee:=.builtin .append,args:=#[x,y],argTypes:=#[t,t] })(hu:P.underlying t=some (.slice e1))(hi1:Ft P e1=some (zc,sz,by'))(hsz:sz=1)(hzc:zc.length=sz)
 (hx:ES K x=some v) (hy:ES K y=some u) (h:own2 c w B hi e1 e2 xss v vs) (h2:own2 c w B2 hi2 e1 e2 yss u us) (hB:B<=w.heap.size) (hle:hi<=B2) (hBB:B<=B2) (hh2:hi2<=w.heap.size) (hh:hi<=w.heap.size) (hns:Ns v B2 hi2) (ha:EU xss yss by'=some zss):
 Jv P N K o w (fun v' w'=>own2 c w' B w'.heap.size e1 e2 zss v' (vs++us)∧Ev w w' v v'):=by
 have Z:vs.length=xss.length:=by have:=h.1.1;omega
 have b1:us.length=yss.length:=by have:=h2.1.1;omega
 obtain⟨b4,rfl⟩:=bA ha Z b1
 intro a hK Kt Q hk
 refine BY (c:=TE) (S2:=Iv 0 w.heap.size) ho hu hi1 hsz hzc rfl hx hy h.raw hB (AS.slf h2.raw (Nat.zero_le _) (Bj _)) b4 a hK Kt Q ?_
 rintro v' w' ⟨h3,h4⟩
 have a0:=h4.1.size
 have nv:∀q,q<w.heap.size->(∀g,v.ownBlock=some g->g≠q)->∀g,v'.ownBlock=some g->g≠q:=fun q O I g E=>by
  rcases h4.2 g E with h5|h5
  ·exact I g h5
  ·omega
 have one:∀{B3 hi3:Nat} {xs:List α} {t:Value},hi3<=w.heap.size->B<=B3->(∀g q,v.ownBlock=some g->t.ownBlock=some q->g≠q)->AS c w B3 (Iv 0 0) e2 xs t->Bd t B3 hi3->AS c w' B (Iv 0 0) e2 xs t∧Bd t B w'.heap.size∧No v' t:=fun b6 b5 I p q=>
  ⟨(p.keep (fun g E=>h4.1.block g (by have:=q g E;omega) (fun e=>I g g e.symm E rfl)) (fun _ h=>h) (fun k h=>absurd h.2 (AX k))).base b5,fun g E=>by have:=q g E;omega,fun g q2 E O=>nv q2 (by have:=q q2 O;omega) (fun g2 b2=>I g2 q2 b2 O) g E⟩
 have get:∀i t,(vs++us)[i]? =some t->(i<vs.length∧vs[i]? =some t)∨(vs.length<=i∧us[i-vs.length]? =some t):=fun i t h=>by
  by_cases hi:i<vs.length
  ·rw [BA hi]at h;exact .inl ⟨hi,h⟩
  ·rw [BI (by omega)]at h;exact .inr ⟨by omega,h⟩
 have lo:∀i t,vs[i]? =some t->Bd t B hi∧No v t:=fun i t J=>by
  have hi:i<xss.length:=by have:=(AR.1 J).1;omega
  exact(h.2.1 i _ t (AK hi) J).2
 have up:∀i t,us[i]? =some t->Bd t B2 hi2:=fun i t J=>by
  have hi:i<yss.length:=by have:=(AR.1 J).1;omega
  exact(h2.2.1 i _ t (AK hi) J).2.1
 refine hk _ _ ⟨own2.of h3 (by simp;omega) (fun i xs t F J=>?_) (fun i j t W b0 J b3=>?_),h4⟩
 ·rcases get i t J with ⟨h5,U⟩|⟨h5,U⟩
  ·rw [BA (by omega)]at F
   obtain⟨p,q,r⟩:=h.2.1 i xs t F U
   exact one hh (Bj _) r p q
  ·rw [BI (by omega)]at F
   obtain⟨p,q,r⟩:=h2.2.1 (i-vs.length) xs t (by rw [Z];exact F) U
   exact one hh2 hBB (fun g q2 E O=>by have:=hns g E;have:=q q2 O;omega) p q
 ·rcases get i t J with ⟨h5,U⟩|⟨h5,U⟩<;>rcases get j W b3 with ⟨h7,Y⟩|⟨h7,Y⟩
  ·exact h.2.2 i j t W b0 U Y
  ·intro g q E O;have:=(lo i t U).1 g E;have:=up _ W Y q O;omega
  ·intro g q E O;have:=(lo j W Y).1 q O;have:=up _ t U g E;omega
  ·exact h2.2.2 (i-vs.length) (j-vs.length) t W (by omega) U Y
end
end Go.Eng
namespace Go.Eng
open Go Go.RowKit
/-! ## A slice that is handed over to grow -/
def Gr(w:World)(v v':Value):Prop:=∀g,v'.ownBlock=some g->v.ownBlock=some g∨w.heap.size<=g
theorem Gr.refl(w:World)(v:Value):Gr w v v:=fun g E=>.inl E
theorem Gr.grew{w E O:World}{v I F:Value}(h:Gr w v I)(W:w.heap.size<=E.heap.size)(U:Ev E O I F):Gr w v F:=fun g J=>by
 rcases U.2 g J with h1|h1
 ·exact h g h1
 ·exact .inr (by omega)
theorem Ev.of{w w':World}{v v':Value}(h:Cb (pO v) w w')(g:Gr w v v'):Ev w w' v v':=
 ⟨⟨h.os,h.tape,h.output,h.size,fun k hk E=>h.block k hk (fun e=>E e.symm)⟩,g⟩
end Go.Eng
namespace Go.Eng
open Go Go.RowKit
/-! ## The end of an own slice, that may grow -/
def Kw{α:Type}(c:FC α)(w:World)(B:Nat)(e:TypeId)(xs:List α)(v:Value):Prop:=
 ∃cs,cs.length=xs.length*c.n∧(∀i x,xs[i]? =some x->c.rep w (Iv 0 0) x (CG cs c.n i))∧
  (v= .slice none 0 0∧xs.length=0∨∃g off cap cur,v= .slice (some ⟨g,off,none⟩) xs.length cap∧B<=g∧w.heap[g]? =some (.cells cur e (0,0))∧xs.length<=cap∧cap<=maxLen∧off+cap*c.n<=cur.size∧(cur.toList.drop off).take (xs.length*c.n)=cs)
section
variable {α:Type} {c:FC α} {w w':World} {B:Nat} {e:TypeId} {xs zs:List α} {v u:Value}
theorem Kw.of(h:AS c w B (Iv 0 0) e xs v):Kw c w B e xs v:=by
 obtain⟨cs,⟨hl,I⟩,J⟩:=h
 refine⟨cs,hl,J,?_⟩
 rcases I with I|⟨g,F,E,rfl,a1,a2,a3,a4,a5,a6⟩
 ·exact .inl I
 ·exact .inr ⟨g,0,F,E,rfl,a1,a2,a3,a4,by omega,by simpa using a6⟩
theorem Kw.blk(h:Kw c w B e xs v):Bd v B w.heap.size:=by
 obtain⟨cs,_,_,⟨rfl,_⟩|⟨g,off,I,F,rfl,a1,a2,_⟩⟩:=h
 ·intro g J;cases J
 ·intro q E
  simp [Value.ownBlock]at E;subst E
  exact⟨a1,(Ct.1 a2).1⟩
theorem Kw.keep[Fy c](h:Kw c w B e xs v)(U:∀g,v.ownBlock=some g->w'.heap[g]? =w.heap[g]?):Kw c w' B e xs v:=by
 obtain⟨cs,O,J,I⟩:=h
 refine⟨cs,O,fun i x W=>Fy.any (J i x W),?_⟩
 rcases I with I|⟨g,off,F,E,rfl,a1,a2,rest⟩
 ·exact .inl I
 ·exact .inr ⟨g,off,F,E,rfl,a1,(U g rfl).trans a2,rest⟩
theorem Kw.ext[Fy c](h:Kw c w B e xs v)(F:Bl w w'):Kw c w' B e xs v:=h.keep (fun g E=>F.block g (h.blk g E).2)
theorem Kw.upd[Fy c]{b:Nat}(h:Kw c w B e xs v)(hu:JF b w w')(E:Nb v b):Kw c w' B e xs v:=h.keep (fun g F=>hu.block g (E g F))
theorem Kw.butF[Fy c]{p:Nat->Prop}(h:Kw c w B e xs v)(I:Cb p w w')(E:∀k,p k->∀g,v.ownBlock=some g->k≠g):Kw c w' B e xs v:=h.keep (fun g F=>I.block g (h.blk g F).2 (fun e=>E g e g F rfl))
section
variable {P:Program} {N:Nat} {K:KL} {o:Oper} {S:Nat -> Prop}
variable {ys:List α}
end
end
end Go.Eng
namespace Go.Eng
open Go Go.RowKit
/-! ## Short words for the plain texts -/
theorem BQ{α β:Type}{a:α}{f:α->Option β}:Option.bind (some a) f=f a:=rfl
theorem cT{α:Type}{x y:α}:(bif true then x else y)=x:=rfl
theorem cF{α:Type}{x y:α}:(bif false then x else y)=y:=rfl
theorem wT(i:Nat)(h:i<4611686018427387904:=by omega):IntKind.wrap IntKind.i64 ((i:Int)+1)=((i+1:Nat):Int):=wSE h
theorem CV{α:Type}{a r:α}(h:some a=some r):r=a:=(Ai h).symm
theorem bft(b:Bool):b=true∨b=false:=Bool.eq_false_or_eq_true b
end Go.Eng
namespace Go.Eng
open Go Go.RowKit
/-! ## Parts of an own slice: its beginning, its end, and clear -/
section
variable {α:Type} {c:FC α} {w w':World} {B:Nat} {S:Nat -> Prop} {e:TypeId} {xs zs:List α} {v u:Value}
section
variable {P:Program} {N:Nat} {K:KL} {o:Oper}
theorem qP{t x hi k2 m2}(ho:o.op= .slice t x none (some hi) none)(hu:P.underlying t=some (.slice e))(hc:Cp P e=some c.n)(Z:ES K x=some v)(W:ES K hi=some (.int k2 m2))
 (Y:AS c w B S e xs v) (hz:PP xs 0 m2=some zs):YE P N K o w (fun u=>u=pR v m2.toNat∧zs=xs.take m2.toNat∧AS c w B S e zs u):=by
 have J:=Y
 obtain⟨cs,⟨hl,h1⟩,h3⟩:=Y
 unfold PP at hz
 split at hz
 ·rename_i hb
  injection hz with hz;subst hz
  have O:(xs.take m2.toNat).drop (0:Int).toNat=xs.take m2.toNat:=by simp
  rw [O]
  have E:=J.cut (m:=m2.toNat) (by omega)
  obtain⟨i,hi2,hsz⟩:=BL.1 hc
  rcases h1 with ⟨rfl,h0⟩|⟨g,I,a0,rfl,a1,a2,a3,a4,a5,a6⟩
  ·have U:m2=0:=by omega
   subst U
   refine⟨.slice none 0 0,fun a' F w' O=>?_,rfl,rfl,E⟩
   have e1:(Instr.sliceBound (.int k2 0) 0 .sliceAcap).run P w'= .ok (0:Int).toNat w':=Jg (by omega) (by omega)
   simp [execOp,ho,F.ev Z,F.ev W,Instr.sliceAt,Instr.slice,CO hu,Instr.sliceBounds,e1,sizeOf,typeInfo,hi2,hsz]
  ·refine⟨.slice (some ⟨g,0,none⟩) m2.toNat I,fun a' F w' O=>?_,rfl,rfl,E⟩
   have e1:(Instr.sliceBound (.int k2 m2) I .sliceAcap).run P w'= .ok m2.toNat w':=Jg (by omega) (by omega)
   simp [execOp,ho,F.ev Z,F.ev W,Instr.sliceAt,Instr.slice,CO hu,Instr.sliceBounds,e1,sizeOf,typeInfo,hi2,hsz,Fa]
 ·cases hz
end
end
end Go.Eng
namespace Go.Eng
open Go Go.RowKit
/-! ## Numbers that turn within what is only read: what is read then is told by its shape -/
inductive dV:Value->Value->Prop
 |refl (u:Value):dV u u
 |int (k:IntKind) (m n:Int):dV (.int k m) (.int k n)
def UR(us vs:List Value):Prop:=us.length=vs.length∧∀(j:Nat) (u v:Value),us[j]? =some u->vs[j]? =some v->dV u v
theorem UR.refl(us:List Value):UR us us:=⟨rfl,fun j u v h k=>by rw [h]at k;obtain rfl:=Ai k;exact .refl _⟩
theorem UR.one{u:Value}{vs:List Value}(h:UR [u] vs):∃v,vs=[v]∧dV u v:=by
 obtain⟨v,rfl⟩:=Fp.1 h.1.symm
 exact⟨v,rfl,h.2 0 u v rfl rfl⟩
theorem UR.app{us ts vs:List Value}(h:UR (us++ts) vs):∃I E,vs=I++E∧UR us I∧UR ts E:=by
 obtain⟨U,O⟩:=h
 rw [CA]at U
 refine⟨vs.take us.length,vs.drop us.length,(DZ _ _).symm,⟨by simp;omega,fun j u v hu F=>?_⟩,⟨by simp;omega,fun j u v hu F=>?_⟩⟩
 ·have J:=(AR.1 hu).1
  rw [Cm,BE J]at F
  exact O j u v (by rw [BA J];exact hu) F
 ·rw [Cv]at F
  exact O (us.length+j) u v (by rw [BI (by omega),FY];exact hu) F
structure Hw(b:Nat)(w w':World):Prop where
 upd:JF b w w'
 cell:∀d off u,w.cell? ⟨d,off,none⟩=some u->∃u',w'.cell? ⟨d,off,none⟩=some u'∧dV u u'
 froz:∀d off,d<w.heap.size->w.frozen? ⟨d,off,none⟩=false->w'.frozen? ⟨d,off,none⟩=false
 row:∀cur ty fz,w.heap[b]? =some (.cells cur ty fz)->∃cur',w'.heap[b]? =some (.cells cur' ty fz)∧UR cur.toList cur'.toList
theorem BK.siB{c:Nat}{w w':World}(E:Hw c w w'){b:Nat}:∀{us:List Value} {off:Nat},BK w b off us->∃us',UR us us'∧BK w' b off us'
 |[],off,_=>⟨[],UR.refl _,fun j u h=>by simp at h⟩
 |u::us,off,h=>by
  obtain⟨⟨J,Z⟩,h3⟩:=h.cons
  obtain⟨us',⟨U,W⟩,Y⟩:=BK.siB E h3
  obtain⟨F,h4,h5⟩:=E.cell b off u J
  refine⟨F::us',⟨by simp [U],fun j x y O I=>?_⟩,BK.mk ⟨h4,E.froz b off (Do _ _ J) Z⟩ Y⟩
  cases j with
  |zero=>obtain rfl:u=x:=by simpa using O
         obtain rfl:F=y:=by simpa using I
         exact h5
  |succ j=>exact W j x y (by simpa using O) (by simpa using I)
def JJ{α:Type}(r:α->α->Prop)(xs ys:List α):Prop:=ys.length=xs.length∧∀(i:Nat) (x y:α),xs[i]? =some x->ys[i]? =some y->r x y
theorem JJ.pick{α:Type}{r:Nat->α->α->Prop}:∀{xs:List α} {s:Nat},(∀(i:Nat) (x:α),xs[i]? =some x->∃y,r (s+i) x y)->∃ys:List α,ys.length=xs.length∧∀(i:Nat) (x y:α),xs[i]? =some x->ys[i]? =some y->r (s+i) x y
 |[],s,_=>⟨[],rfl,fun i x y h=>by simp at h⟩
 |x::xs,s,h=>by
  obtain⟨y,J⟩:=h 0 x rfl
  obtain⟨ys,O,I⟩:=JJ.pick (r:=r) (xs:=xs) (s:=s+1) fun i z hz=>by
   have:=h (i+1) z (by simpa using hz)
   rwa [show s+(i+1)=s+1+i by omega]at this
  refine⟨y::ys,by simp [O],fun i a b E F=>?_⟩
  cases i with
  |zero=>obtain rfl:x=a:=by simpa using E
         obtain rfl:y=b:=by simpa using F
         exact J
  |succ i=>have:=I i a b (by simpa using E) (by simpa using F)
           rwa [show s+1+i=s+(i+1) by omega]at this
class VK{α:Type}(c:FC α)(r:outParam (α->α->Prop)):Prop where
 sim:∀{b:Nat} {w w':World} {S:Nat->Prop} {x:α} {vs vs':List Value},c.rep w S x vs->Hw b w w'->UR vs vs'->∃x',r x x'∧c.rep w' S x' vs'
instance (k:IntKind):VK (CR k) (fun _ _=>True):=⟨fun e _ h=>by
 obtain rfl:=e;obtain⟨v,rfl,h2⟩:=h.one
 cases h2 with
 |refl=>exact⟨_,trivial,rfl⟩
 |int _ _ n=>exact⟨n,trivial,rfl⟩⟩
instance:VK Bx Eq:=⟨fun e _ h=>by
 obtain rfl:=e;obtain⟨v,rfl,h2⟩:=h.one
 cases h2;exact⟨_,rfl,rfl⟩⟩
instance:VK Bw Eq:=⟨fun e _ h=>by
 obtain rfl:=e;obtain⟨v,rfl,h2⟩:=h.one
 cases h2;exact⟨_,rfl,rfl⟩⟩
instance {α β:Type}(c:FC α)(d:FC β)(r:α->α->Prop)(q:β->β->Prop)[hc:VK c r][hd:VK d q]:VK (DL c d) (fun x y=>r x.1 y.1∧q x.2 y.2):=⟨fun⟨us,ts,e,h1,h2⟩ hs h=>by
 subst e;obtain⟨vs1,vs2,rfl,k1,k2⟩:=h.app
 obtain⟨x,a1,a2⟩:=hc.sim h1 hs k1
 obtain⟨y,b1,b2⟩:=hd.sim h2 hs k2
 exact⟨(x,y),⟨a1,b1⟩,vs1,vs2,rfl,a2,b2⟩⟩
theorem VK.map{α β:Type}{c:FC α}{r:α->α->Prop}[hc:VK c r](f:β->α)(g:α->β)(h:∀y,f (g y)=y):VK (Gj f c) (fun x y=>r (f x) (f y)):=⟨fun k E F=>by
 obtain⟨y,a1,a2⟩:=hc.sim k E F
 exact⟨g y,by show r _ (f (g y));rw [h];exact a1,by show c.rep _ _ (f (g y)) _;rw [h];exact a2⟩⟩
section
variable {α:Type} {c:FC α} {r:α -> α -> Prop} [hc:VK c r] {b:Nat} {w w':World} {S:Nat -> Prop} {xs:List α} {v:Value}
theorem Ae.siB(h:Ae c w S xs v)(hs:Hw b w w'):∃ys,JJ r xs ys∧Ae c w' S ys v:=by
 obtain⟨a,F,Y,W,Z,h4⟩:=h
 by_cases hl:0<xs.length
 ·obtain⟨d,off,h5,h6,h8⟩:=h4 hl
  obtain⟨ys,J,U⟩:=JJ.pick (r:=fun i x y=>r x y∧∃us,c.rep w' S y us∧BK w' d (off+i*c.n) us) (xs:=xs) (s:=0) fun i x E=>by
   obtain⟨us,h9,O⟩:=h8 i x E
   obtain⟨us',q1,q2⟩:=O.siB hs
   obtain⟨y,p1,p2⟩:=hc.sim h9 hs q1
   exact⟨y,p1,us',p2,by rw [DA];exact q2⟩
  have get:∀i x,xs[i]? =some x->∃y,ys[i]? =some y:=fun i x E=>⟨_,AK (by have:=(AR.1 E).1;omega)⟩
  refine⟨ys,⟨J,fun i x y E I=>(U i x y E I).1⟩,a,F,by rw [J];exact Y,by rw [J];exact W,Z,fun _=>⟨d,off,h5,h6,fun i y I=>?_⟩⟩
  have E:xs[i]? =some (xs[i]'(by have:=(AR.1 I).1;omega)):=AK _
  have:=(U i _ y E I).2
  rwa [DA]at this
 ·obtain rfl:xs=[]:=CN (by omega)
  exact⟨[],⟨rfl,fun i x y h=>by simp at h⟩,a,F,Y,W,Z,fun h=>absurd h hl⟩
theorem AS.siB{B:Nat}{e:TypeId}(h:AS c w B S e xs v)(O:Hw b w w')(Y:∀g,v.ownBlock=some g->g≠b):∃ys,JJ r xs ys∧AS c w' B S e ys v:=by
 obtain⟨cs,W,U⟩:=h
 obtain⟨ys,I,J⟩:=JJ.pick (r:=fun i x y=>r x y∧c.rep w' S y (CG cs c.n i)) (xs:=xs) (s:=0) fun i x E=>by
  obtain⟨y,p1,p2⟩:=hc.sim (U i x E) O (UR.refl _)
  exact⟨y,p1,by rw [DA];exact p2⟩
 refine⟨ys,⟨I,fun i x y E F=>(J i x y E F).1⟩,cs,by rw [I];exact ownsRow.keep W (fun g Z=>O.upd.block g (Y g Z)),fun i y F=>?_⟩
 have E:xs[i]? =some (xs[i]'(by have:=(AR.1 F).1;omega)):=AK _
 have:=(J i _ y E F).2
 rwa [DA]at this
theorem UR.part{us vs:List Value}(h:UR us vs)(m k:Nat):UR ((us.drop m).take k) ((vs.drop m).take k):=by
 obtain⟨F,J⟩:=h
 refine⟨by simp [F],fun j u v hu E=>?_⟩
 have I:j<k:=by have:=(AR.1 hu).1;simp at this;omega
 rw [Cm,BE I,Cv]at hu E
 exact J _ u v hu E
theorem AS.siB2{B:Nat}{e:TypeId}(h:AS c w B S e xs v)(hs:Hw b w w'):∃ys,JJ r xs ys∧AS c w' B S e ys v:=by
 obtain⟨cs,h1,h2⟩:=h
 have Z:∃E,UR cs E∧w'.ownsRow B e c.n v xs.length E:=by
  obtain⟨hl,⟨rfl,hn⟩|⟨g,J,I,rfl,hb,hh,h5,h6,h7,h8⟩⟩:=h1
  ·exact⟨cs,UR.refl _,hl,.inl ⟨rfl,hn⟩⟩
  ·by_cases e2:g=b
   ·subst e2
    obtain⟨F,a0,O⟩:=hs.row I e (0,0) hh
    have hsz:F.size=I.size:=by have:=O.1;simpa using this.symm
    have W:=O.part 0 cs.length
    rw [List.drop_zero,List.drop_zero]at W
    have e3:I.toList.take cs.length=cs:=by rw [hl];exact h8
    rw [e3]at W
    refine⟨F.toList.take cs.length,W,by rw [←W.1];exact hl,.inr ⟨g,J,F,rfl,hb,a0,h5,h6,by rw [hsz];exact h7,by rw [hl]⟩⟩
   ·exact⟨cs,UR.refl _,hl,.inr ⟨g,J,I,rfl,hb,(hs.upd.block g e2).trans hh,h5,h6,h7,h8⟩⟩
 obtain⟨E,k0,k1⟩:=Z
 obtain⟨ys,p1,p2⟩:=JJ.pick (r:=fun i x y=>r x y∧c.rep w' S y (CG E c.n i)) (xs:=xs) (s:=0) fun i x U=>by
  obtain⟨y,q1,q2⟩:=hc.sim (h2 i x U) hs (k0.part (i*c.n) c.n)
  exact⟨y,q1,by rw [DA];exact q2⟩
 refine⟨ys,⟨p1,fun i x y U Y=>(p2 i x y U Y).1⟩,E,by rw [p1];exact k1,fun i y Y=>?_⟩
 have U:xs[i]? =some (xs[i]'(by have:=(AR.1 Y).1;omega)):=AK _
 have:=(p2 i _ y U Y).2
 rwa [DA]at this
end
instance {α:Type}(c:FC α)(r:α->α->Prop)[VK c r]:VK (HU c) (JJ r):=⟨fun⟨v,e,h⟩ hs k=>by
 subst e;obtain⟨v',rfl,k2⟩:=k.one
 obtain⟨a,cap,rfl,_⟩:=id h
 obtain⟨ys,p1,p2⟩:=h.siB hs
 cases k2
 exact⟨ys,p1,_,rfl,p2⟩⟩
theorem Ae.reg{α:Type}{c:FC α}[Fy c]{w w1:World}{S S1:Nat->Prop}{xs:List α}{v:Value}(h:Ae c w S xs v)(h1:Ae c w1 S1 xs v):Ae c w (fun k=>S k∧S1 k) xs v:=by
 obtain⟨a,O,rfl,h2,h3,h4⟩:=h
 obtain⟨a',Y,e,_,_,F⟩:=h1
 refine⟨a,O,rfl,h2,h3,fun hl=>?_⟩
 obtain⟨b,off,Z,h6,h8⟩:=h4 hl
 obtain⟨b',W,I,U,_⟩:=F hl
 have E:a=a':=by injection e
 have eb:b=b':=by rw [Z,I]at E;injection E with E;injection E
 refine⟨b,off,Z,⟨h6,eb▸U⟩,fun i x hx=>?_⟩
 obtain⟨us,h9,J⟩:=h8 i x hx
 exact⟨us,Fy.any h9,J⟩
/-! ## A number is written into what is read -/
section
variable {P:Program} {N:Nat} {o:Oper} {K:KL} {w:World}
theorem PK{t b off o0:Nat}{us:List Value}{k:IntKind}{m0 U:Int}(j:Nat)(h:yR K o.op=some (t,b,off,.int k U))(b4:BK w b o0 us)(hj:off=o0+j)(hu:us[j]? =some (.int k m0))(hn:Cp P t=some 1):Jv P N K o w (fun _ w'=>Hw b w w'):=by
 obtain⟨x,y,ho,hx,hy⟩:=XR h
 have E:=b4 j _ hu
 rw [←hj]at E
 obtain⟨E,b1⟩:=E
 have b5:b<w.heap.size:=Do _ _ E
 obtain⟨F,Z,Y,I,O⟩:∃F Z Y,w.heap[b]? =some (.cells F Z Y)∧F[off]? =some (.int k m0):=by
  unfold World.cell? at E
  split at E
  ·rename_i F Z Y I
   exact⟨F,Z,Y,I,by simpa using E⟩
  ·cases E
 intro a hK Kt Q hk
 obtain⟨ti,hi,hsz⟩:=BL.1 hn
 have hc:(Value.int k U).cells.toList=[.int k U]:=rfl
 have b0:(storeCells ⟨b,off,none⟩ (Value.int k U).cells.toList 0).run P w= .ok () (w.setRow b (F.setIfInBounds off (.int k U))):=by
  rw [hc]
  have b2:(⟨b,off,none⟩:Addr).add 0=⟨b,off,none⟩:=by simp [Addr.add]
  simp only [storeCells,DP,b2]
  rw [run_store P w _ (.int k U) _ rfl,E]
  simp [b1,setCell_eq_setRow w b off F Z Y (.int k U) I]
 have b3:(Value.int k U).cells.size=1:=by have:=congrArg List.length hc;simpa using this
 have hr:(execOp a.eval o).run P w= .ok .skip (w.setRow b (F.setIfInBounds off (.int k U))):=by
  simp [execOp,ho,hK.ev hx,hK.ev hy,Instr.storeAt,Instr.sureAddr,storeVar,DP,sizeOf,typeInfo,hi,hsz,b3]at b0 ⊢
  rw [b0]
  simp
 unfold Oper.wp
 rw [hr]
 have a0:=JF.setRow w b (F.setIfInBounds off (.int k U))
 have J:=setRow_heap w b F (F.setIfInBounds off (.int k U)) Z Y I
 refine hk _ _ ⟨a0,fun d q x W=>?_,fun d q hl hf=>?_,fun c0 t0 f0 W=>?_⟩
 ·by_cases e:d=b
  ·subst e
   rw [cell_of_row w d q F Z Y I]at W
   rw [cell_of_row _ d q _ Z Y J]
   by_cases e2:off=q
   ·subst e2
    rw [O]at W
    obtain rfl:=Ai W
    have:=(Ct.1 O).1
    exact⟨.int k U,by simp [this],.int _ _ _⟩
   ·exact⟨x,by rw [Array.getElem?_setIfInBounds_ne e2];exact W,.refl _⟩
  ·exact⟨x,by rw [GO (w:=w) (a0.block d e)];exact W,.refl _⟩
 ·by_cases e:d=b
  ·subst e
   simp only [World.frozen?,I,J]at hf ⊢
   exact hf
  ·rw [Ib (a0.block d e)];exact hf
 ·rw [I]at W
  injection W with W;injection W with e1 e2 e3
  subst e1 e2 e3
  refine⟨_,J,by simp,fun j u v hu hv=>?_⟩
  simp only [Array.getElem?_toList]at hu hv
  by_cases e4:off=j
  ·subst e4
   rw [O]at hu
   obtain rfl:=Ai hu
   have:=(Ct.1 O).1
   rw [Array.getElem?_setIfInBounds_self_of_lt this]at hv
   obtain rfl:=Ai hv
   exact .int _ _ _
  ·rw [Array.getElem?_setIfInBounds_ne e4,hu]at hv
   obtain rfl:=Ai hv
   exact .refl _
end
/-! ## What a slice's elements lead to, but for the blocks of one kind -/
def Kl(w:World)(k:Nat):Option TypeId:=match w.heap[k]? with
 |some (.cells _ e _)=>some e
 |_=>none
def RT(w:World)(B hi:Nat)(v:Value)(tx:TypeId):Nat->Prop:=fun k=>SX B hi v k∧Kl w k≠some tx
def El{α:Type}(c:FC α)(w:World)(B hi:Nat)(e:TypeId)(xs:List α)(v:Value)(tx:TypeId):Prop:=AS c w B (RT w B hi v tx) e xs v
theorem Kl.same{w w':World}{k:Nat}(h:w'.heap[k]? =w.heap[k]?):Kl w' k=Kl w k:=by unfold Kl;rw [h]
section
variable {α:Type} {c:FC α} {w w':World} {B hi:Nat} {e tx:TypeId} {xs:List α} {v:Value}
theorem AS.tag{S:Nat->Prop}(h:AS c w B S e xs v):∀g,v.ownBlock=some g->Kl w g=some e:=by
 obtain⟨cs,⟨_,⟨rfl,_⟩|⟨g,J,E,rfl,U,I,_⟩⟩,_⟩:=h
 ·intro g O;cases O
 ·intro q F
  have:g=q:=Ai F
  subst this
  simp only [Kl,I]
theorem El.sx(h:El c w B hi e xs v tx):AS c w B (SX B hi v) e xs v:=AS.keep h (fun _ _=>rfl) (fun _ k=>k.1) (fun _ _=>rfl)
theorem El.keep(h:El c w B hi e xs v tx)(F:∀g,v.ownBlock=some g->w'.heap[g]? =w.heap[g]?)(E:∀k,RT w B hi v tx k->w'.heap[k]? =w.heap[k]?):El c w' B hi e xs v tx:=
 AS.keep h F (fun k q=>⟨q.1,by rw [Kl.same (E k q)];exact q.2⟩) E
theorem El.ext(h:El c w B hi e xs v tx)(E:Bl w w')(I:hi<=w.heap.size):El c w' B hi e xs v tx:=
 h.keep (fun g F=>E.block g (AS.blk h g F).2) (fun k q=>E.block k (by have:=q.1.2.1;omega))
theorem El.upd{b:Nat}(h:El c w B hi e xs v tx)(hu:JF b w w')(E:∀g,v.ownBlock=some g->g≠b)(I:b<B∨hi<=b:=by omega):El c w' B hi e xs v tx:=
 h.keep (fun g F=>hu.block g (E g F)) (fun k q=>hu.block k (by have:=q.1.1;have:=q.1.2.1;omega))
theorem El.but{p:Nat->Prop}(h:El c w B hi e xs v tx)(F:Cb p w w')(E:∀k,p k->∀g,v.ownBlock=some g->k≠g)(J:hi<=w.heap.size)(O:∀k,p k->k<B∨hi<=k):El c w' B hi e xs v tx:=
 h.keep (fun g I=>F.block g (AS.blk h g I).2 (fun e=>E g e g I rfl)) (fun k q=>F.block k (by have:=q.1.2.1;omega) (fun e=>by have:=O k e;have:=q.1.1;have:=q.1.2.1;omega))
theorem El.grewI{t O:Value}(I:Ev w w' t O)(h:El c w B hi e xs v tx)(E:∀g q,t.ownBlock=some g->v.ownBlock=some q->g≠q)(J:hi<=w.heap.size)(U:∀g,t.ownBlock=some g->g<B∨hi<=g):El c w' B hi e xs v tx:=
 h.keep (fun g F=>I.1.block g (AS.blk h g F).2 (fun e=>E g g e.symm F rfl)) (fun k q=>I.1.block k (by have:=q.1.2.1;omega) (fun e=>by have:=U k e.symm;have:=q.1.1;have:=q.1.2.1;omega))
theorem El.grewT{t O:Value}(I:Ev w w' t O)(h:El c w B hi e xs v tx)(E:∀g q,t.ownBlock=some g->v.ownBlock=some q->g≠q)(J:hi<=w.heap.size)(U:∀g,t.ownBlock=some g->Kl w g=some tx):El c w' B hi e xs v tx:=
 h.keep (fun g F=>I.1.block g (AS.blk h g F).2 (fun e=>E g g e.symm F rfl)) (fun k q=>I.1.block k (by have:=q.1.2.1;omega) (fun e=>q.2 (U k e.symm)))
theorem El.wide{hi':Nat}(h:El c w B hi e xs v tx)(E:hi<=hi':=by omega):El c w B hi' e xs v tx:=
 AS.keep h (fun _ _=>rfl) (fun k q=>⟨⟨q.1.1,by have:=q.1.2.1;omega,q.1.2.2⟩,q.2⟩) (fun _ _=>rfl)
theorem El.base{E:Nat}(h:El c w B hi e xs v tx)(F:E<=B):El c w E hi e xs v tx:=
 AS.keep (AS.base h F) (fun _ _=>rfl) (fun k q=>⟨⟨by have:=q.1.1;omega,q.1.2⟩,q.2⟩) (fun _ _=>rfl)
theorem El.nil{S:Nat->Prop}(h:AS c w B S e [] v):El c w B hi e [] v tx:=by
 obtain⟨cs,E,_⟩:=h
 exact⟨cs,E,fun i x F=>by simp at F⟩
theorem AS.slT{lo hi2:Nat}(h:AS c w B (Iv 0 0) e xs v)(I:Bd v lo hi2)(E:e≠tx):Ae c w (fun k=>Iv lo hi2 k∧Kl w k≠some tx) xs v:=
 h.slG (fun k q=>absurd q.2 (AX k)) (fun g F=>⟨I g F,by rw [h.tag g F];exact fun e2=>E (Ai e2)⟩)
theorem AS.litT{g k F lo hi2:Nat}{u:Value}{w0:World}(h:AS c w g (fun k=>Iv lo hi2 k∧Kl w0 k≠some tx) e xs u)(hu:u= .slice (some ⟨g,0,none⟩) k F)(J:lo<=g)(O:hi2<=g)(W:g=w0.heap.size)(I:Bl w0 w):El c w lo g e xs u tx:=
 AS.keep (h.base J) (fun _ _=>rfl) (fun q E=>⟨⟨E.1.1,by have:=E.1.2;omega,fun e=>by
  subst hu
  have U:g=q:=Ai e
  have:=E.1.2;omega⟩,by rw [Kl.same (I.block q (by have:=E.1.2;omega))];exact E.2⟩) (fun _ _=>rfl)
end
section
variable {P:Program} {N:Nat} {K:KL} {o:Oper} {α:Type} {c:FC α} {w:World} {B hi B2 hi2:Nat} {e tx:TypeId} {xs ys zs:List α} {v u:Value}
theorem VW{t x y zc sz by'}(ho:o.op= .call { callee:=.builtin .append,args:=#[x,y],argTypes:=#[t,t] })(hu:P.underlying t=some (.slice e))(hi1:Ft P e=some (zc,sz,by'))(hsz:sz=c.n)(hzc:zc.length=sz)
 (hpos:Nat.blt 0 c.n=true) (hx:ES K x=some v) (hy:ES K y=some u) (hs:El c w B hi e xs v tx) (hb:B<=w.heap.size) (hle:hi<=w.heap.size) (h2:El c w B2 hi2 e ys u tx) (hB:B<=B2) (hh:hi2<=w.heap.size) (het:e≠tx) (hne:∀g,v.ownBlock=some g->g<B2) (ha:EU xs ys by'=some zs):
 Jv P N K o w (fun v' w'=>El c w' B w.heap.size e zs v' tx∧Ev w w' v v'):=by
 have I:Ae c w (fun k=>(B2<=k∧k<w.heap.size)∧Kl w k≠some tx) ys u:=
  AS.slG h2 (fun k q=>⟨⟨q.1.1,by have:=q.1.2.1;omega⟩,q.2⟩) (fun g F=>⟨AS.blk h2 g F,by rw [AS.tag h2 g F];exact fun e2=>het (Ai e2)⟩)
 intro a J Kt Q hk
 refine QM (S':=RT w B w.heap.size v tx) ho hu hi1 hsz hzc hpos hx hy hs hb I ha (fun k q=>⟨⟨q.1.1,by have:=q.1.2.1;omega,q.1.2.2⟩,q.2⟩)
  (fun _ _ h=>c.mono h (fun k q=>⟨⟨by have:=q.1.1;omega,q.1.2,fun e=>by have:=hne k e;have:=q.1.1;omega⟩,q.2⟩) (fun _ _=>rfl)) (fun k q=>⟨q.1.2.1,q.1.2.2⟩) a J Kt Q ?_
 rintro v' w' ⟨O,E⟩
 refine hk v' w' ⟨O.keep (fun _ _=>rfl) (fun k q=>⟨⟨q.1.1,q.1.2.1,fun e=>?_⟩,?_⟩) (fun _ _=>rfl),E⟩
 ·rcases E.2 k e with h5|h5
  ·exact q.1.2.2 h5
  ·have:=q.1.2.1;omega
 ·rw [Kl.same (E.1.block k q.1.2.1 (fun e=>q.1.2.2 e.symm))];exact q.2
end
/-! ## Functions that are handed what is to be done with their result: whatever it be -/
structure RE where
 any:{α:Type}->(α->Prop)->(α->Option Unit)->Option Unit
 out:∀{α:Type} {p:α->Prop} {f:α->Option Unit},any p f=some ()->∀x,p x->f x=some ()
 inn:∀{α:Type} {p:α->Prop} {f:α->Option Unit},(∀x,p x->f x=some ())->any p f=some ()
theorem dM{O:RE}{α:Type}{p:α->Prop}{f:α->Option Unit}(h:O.any p f=some ())(x:α)(E:p x):f x=some ():=O.out h x E
theorem AeZ{P:Program}{f:FuncId}{vs:Array Value}{w:World}(h:Calls P f vs w (Gh fun u E=>∃r:Bool,u= .bool r∧Bl w E∧(bif r then some ()else none)=some ())):Calls P f vs w (Gh fun u E=>u= .bool true∧Bl w E):=
 Calls.mono h fun e E ⟨v,J,r,F,O,I⟩=>⟨v,J,(match r,F,I with|true,F,_=>F|false,_,I=>nomatch I),O⟩
theorem RE.is:Nonempty RE:=by
 classical
 exact⟨⟨fun p f=>if∀x,p x->f x=some ()then some ()else none,(fun h=>by
  split at h
  ·rename_i q;exact q
  ·cases h),fun h=>BE h⟩⟩
end Go.Eng
namespace Go.Eng
open Go Go.RowKit
/-! ## Facts that move on together -/
class Mv(w w':World)(A:Prop)(A':outParam Prop)(S:outParam Prop):Prop where
 mv:A->S->Bl w w'->A'
class Mu(b:Nat)(w w':World)(A:Prop)(A':outParam Prop)(S:outParam Prop):Prop where
 mv:A->S->JF b w w'->A'
class Mb(b:Nat)(w w':World)(A:Prop)(A':outParam Prop)(S:outParam Prop):Prop where
 mv:A->S->Cb (pB b) w w'->A'
section
variable {w w':World} {b d lo hi B:Nat} {us:List Value} {t e e1 e2 tx:TypeId} {α:Type} {c:FC α} {xs:List α} {xss:List (List α)} {v:Value} {vs:List Value}
instance:Mv w w' (Bu w d us t) (Bu w' d us t) True:=⟨fun h _ k=>h.ext k⟩
instance [Fy c]:Mv w w' (AS c w B (Iv 0 0) e xs v) (AS c w' B (Iv 0 0) e xs v) True:=⟨fun h _ k=>AS.ext h k⟩
instance:Mv w w' (Ae c w (Iv lo hi) xs v) (Ae c w' (Iv lo hi) xs v) (hi<=w.heap.size):=⟨fun h s k=>h.old k s⟩
instance:Mv w w' (AS c w B (SX B hi v) e xs v) (AS c w' B (SX B hi v) e xs v) (hi<=w.heap.size):=⟨fun h s k=>AS.extN h k s⟩
instance:Mv w w' (El c w B hi e xs v tx) (El c w' B hi e xs v tx) (hi<=w.heap.size):=⟨fun h s k=>El.ext h k s⟩
instance [Fy c]:Mv w w' (own2 c w B hi e1 e2 xss v vs) (own2 c w' B hi e1 e2 xss v vs) (hi<=w.heap.size):=⟨fun h s k=>own2.ext h k s⟩
instance:Mu b w w' (Bu w d us t) (Bu w' d us t) (d≠b):=⟨fun h s k=>h.upd k s⟩
instance:Mu b w w' (Ae c w (Iv lo hi) xs v) (Ae c w' (Iv lo hi) xs v) (b<lo∨hi<=b):=⟨fun h s k=>Ae.upd h k s⟩
instance:Mb b w w' (Bu w d us t) (Bu w' d us t) (b≠d):=⟨fun h s k=>Bu.but h k (Ab s)⟩
instance:Mb b w w' (Ae c w (Iv lo hi) xs v) (Ae c w' (Iv lo hi) xs v) ((b<lo∨hi<=b)∧hi<=w.heap.size):=⟨fun h s k=>Ae.but h k (Ab s.1) s.2⟩
end
theorem Dc{w w':World}{E Q1 I F J S2:Prop}[i1:Mv w w' E Q1 I][i2:Mv w w' F J S2](U:E)(O:F)(k:Bl w w')(s:I∧S2:=by and_intros<;>first|trivial|omega):Q1∧J:=⟨i1.mv U s.1 k,i2.mv O s.2 k⟩
theorem Ez{w w':World}{E Q1 W J U S2 O F I:Prop}[i1:Mv w w' E Q1 W][i2:Mv w w' J U S2][i3:Mv w w' O F I](Z:E)(Y:J)(h3:O)(k:Bl w w')(s:W∧S2∧I:=by and_intros<;>first|trivial|omega):Q1∧U∧F:=⟨i1.mv Z s.1 k,i2.mv Y s.2.1 k,i3.mv h3 s.2.2 k⟩
theorem EV{w w':World}{E Q1 Z O Y S2 U F I P4 J W:Prop}[i1:Mv w w' E Q1 Z][i2:Mv w w' O Y S2][i3:Mv w w' U F I][i4:Mv w w' P4 J W](h1:E)(h2:O)(h3:U)(h4:P4)(k:Bl w w')(s:Z∧S2∧I∧W:=by and_intros<;>first|trivial|omega):Q1∧Y∧F∧J:=⟨i1.mv h1 s.1 k,i2.mv h2 s.2.1 k,i3.mv h3 s.2.2.1 k,i4.mv h4 s.2.2.2 k⟩
theorem JP{w w':World}{E Q1 S1 O Z S2 U F I P4 J W P5 Y S5:Prop}[i1:Mv w w' E Q1 S1][i2:Mv w w' O Z S2][i3:Mv w w' U F I][i4:Mv w w' P4 J W][i5:Mv w w' P5 Y S5](h1:E)(h2:O)(h3:U)(h4:P4)(h5:P5)(k:Bl w w')(s:S1∧S2∧I∧W∧S5:=by and_intros<;>first|trivial|omega):Q1∧Z∧F∧J∧Y:=⟨i1.mv h1 s.1 k,i2.mv h2 s.2.1 k,i3.mv h3 s.2.2.1 k,i4.mv h4 s.2.2.2.1 k,i5.mv h5 s.2.2.2.2 k⟩
theorem JQ{w w':World}{W Q1 S1 P2 Q2 S2 U J S3 I O S4 P5 E F P6 Y Z:Prop}[i1:Mv w w' W Q1 S1][i2:Mv w w' P2 Q2 S2][i3:Mv w w' U J S3][i4:Mv w w' I O S4][i5:Mv w w' P5 E F][i6:Mv w w' P6 Y Z](h1:W)(h2:P2)(h3:U)(h4:I)(h5:P5)(h6:P6)(k:Bl w w')(s:S1∧S2∧S3∧S4∧F∧Z:=by and_intros<;>first|trivial|omega):Q1∧Q2∧J∧O∧E∧Y:=⟨i1.mv h1 s.1 k,i2.mv h2 s.2.1 k,i3.mv h3 s.2.2.1 k,i4.mv h4 s.2.2.2.1 k,i5.mv h5 s.2.2.2.2.1 k,i6.mv h6 s.2.2.2.2.2 k⟩
theorem Jk{w w':World}{W Q1 S1 P2 Q2 S2 U J S3 I O S4 P5 E F P6 Y Z P7 Q7 S7:Prop}[i1:Mv w w' W Q1 S1][i2:Mv w w' P2 Q2 S2][i3:Mv w w' U J S3][i4:Mv w w' I O S4][i5:Mv w w' P5 E F][i6:Mv w w' P6 Y Z][i7:Mv w w' P7 Q7 S7](h1:W)(h2:P2)(h3:U)(h4:I)(h5:P5)(h6:P6)(h7:P7)(k:Bl w w')(s:S1∧S2∧S3∧S4∧F∧Z∧S7:=by and_intros<;>first|trivial|omega):Q1∧Q2∧J∧O∧E∧Y∧Q7:=⟨i1.mv h1 s.1 k,i2.mv h2 s.2.1 k,i3.mv h3 s.2.2.1 k,i4.mv h4 s.2.2.2.1 k,i5.mv h5 s.2.2.2.2.1 k,i6.mv h6 s.2.2.2.2.2.1 k,i7.mv h7 s.2.2.2.2.2.2 k⟩
theorem EA{w w':World}{Z Q1 S1 P2 Q2 S2 U J S3 I O S4 P5 E F P6 Q6 S6 P7 Q7 S7 W Y S8:Prop}[i1:Mv w w' Z Q1 S1][i2:Mv w w' P2 Q2 S2][i3:Mv w w' U J S3][i4:Mv w w' I O S4][i5:Mv w w' P5 E F][i6:Mv w w' P6 Q6 S6][i7:Mv w w' P7 Q7 S7][i8:Mv w w' W Y S8](h1:Z)(h2:P2)(h3:U)(h4:I)(h5:P5)(h6:P6)(h7:P7)(h8:W)(k:Bl w w')(s:S1∧S2∧S3∧S4∧F∧S6∧S7∧S8:=by and_intros<;>first|trivial|omega):Q1∧Q2∧J∧O∧E∧Q6∧Q7∧Y:=⟨i1.mv h1 s.1 k,i2.mv h2 s.2.1 k,i3.mv h3 s.2.2.1 k,i4.mv h4 s.2.2.2.1 k,i5.mv h5 s.2.2.2.2.1 k,i6.mv h6 s.2.2.2.2.2.1 k,i7.mv h7 s.2.2.2.2.2.2.1 k,i8.mv h8 s.2.2.2.2.2.2.2 k⟩
theorem Ni{w w':World}{b:Nat}{E Q1 I F J S2:Prop}[i1:Mu b w w' E Q1 I][i2:Mu b w w' F J S2](U:E)(O:F)(k:JF b w w')(s:I∧S2:=by and_intros<;>first|trivial|omega):Q1∧J:=⟨i1.mv U s.1 k,i2.mv O s.2 k⟩
theorem MI{w w':World}{b:Nat}{E Q1 W J U S2 O F I:Prop}[i1:Mu b w w' E Q1 W][i2:Mu b w w' J U S2][i3:Mu b w w' O F I](Z:E)(Y:J)(h3:O)(k:JF b w w')(s:W∧S2∧I:=by and_intros<;>first|trivial|omega):Q1∧U∧F:=⟨i1.mv Z s.1 k,i2.mv Y s.2.1 k,i3.mv h3 s.2.2 k⟩
theorem IP{w w':World}{b:Nat}{E Q1 Z O Y S2 U F I P4 J W:Prop}[i1:Mu b w w' E Q1 Z][i2:Mu b w w' O Y S2][i3:Mu b w w' U F I][i4:Mu b w w' P4 J W](h1:E)(h2:O)(h3:U)(h4:P4)(k:JF b w w')(s:Z∧S2∧I∧W:=by and_intros<;>first|trivial|omega):Q1∧Y∧F∧J:=⟨i1.mv h1 s.1 k,i2.mv h2 s.2.1 k,i3.mv h3 s.2.2.1 k,i4.mv h4 s.2.2.2 k⟩
theorem Nu{w w':World}{b:Nat}{E Q1 S1 O Z S2 U F I P4 J W P5 Y S5:Prop}[i1:Mu b w w' E Q1 S1][i2:Mu b w w' O Z S2][i3:Mu b w w' U F I][i4:Mu b w w' P4 J W][i5:Mu b w w' P5 Y S5](h1:E)(h2:O)(h3:U)(h4:P4)(h5:P5)(k:JF b w w')(s:S1∧S2∧I∧W∧S5:=by and_intros<;>first|trivial|omega):Q1∧Z∧F∧J∧Y:=⟨i1.mv h1 s.1 k,i2.mv h2 s.2.1 k,i3.mv h3 s.2.2.1 k,i4.mv h4 s.2.2.2.1 k,i5.mv h5 s.2.2.2.2 k⟩
theorem Nt{w w':World}{b:Nat}{W Q1 S1 P2 Q2 S2 U J S3 I O S4 P5 E F P6 Y Z:Prop}[i1:Mu b w w' W Q1 S1][i2:Mu b w w' P2 Q2 S2][i3:Mu b w w' U J S3][i4:Mu b w w' I O S4][i5:Mu b w w' P5 E F][i6:Mu b w w' P6 Y Z](h1:W)(h2:P2)(h3:U)(h4:I)(h5:P5)(h6:P6)(k:JF b w w')(s:S1∧S2∧S3∧S4∧F∧Z:=by and_intros<;>first|trivial|omega):Q1∧Q2∧J∧O∧E∧Y:=⟨i1.mv h1 s.1 k,i2.mv h2 s.2.1 k,i3.mv h3 s.2.2.1 k,i4.mv h4 s.2.2.2.1 k,i5.mv h5 s.2.2.2.2.1 k,i6.mv h6 s.2.2.2.2.2 k⟩
theorem SE{w w':World}{b:Nat}{W Q1 S1 P2 Q2 S2 U J S3 I O S4 P5 E F P6 Y Z P7 Q7 S7:Prop}[i1:Mu b w w' W Q1 S1][i2:Mu b w w' P2 Q2 S2][i3:Mu b w w' U J S3][i4:Mu b w w' I O S4][i5:Mu b w w' P5 E F][i6:Mu b w w' P6 Y Z][i7:Mu b w w' P7 Q7 S7](h1:W)(h2:P2)(h3:U)(h4:I)(h5:P5)(h6:P6)(h7:P7)(k:JF b w w')(s:S1∧S2∧S3∧S4∧F∧Z∧S7:=by and_intros<;>first|trivial|omega):Q1∧Q2∧J∧O∧E∧Y∧Q7:=⟨i1.mv h1 s.1 k,i2.mv h2 s.2.1 k,i3.mv h3 s.2.2.1 k,i4.mv h4 s.2.2.2.1 k,i5.mv h5 s.2.2.2.2.1 k,i6.mv h6 s.2.2.2.2.2.1 k,i7.mv h7 s.2.2.2.2.2.2 k⟩
theorem Hq{w w':World}{b:Nat}{Z Q1 S1 P2 Q2 S2 U J S3 I O S4 P5 E F P6 Q6 S6 P7 Q7 S7 W Y S8:Prop}[i1:Mu b w w' Z Q1 S1][i2:Mu b w w' P2 Q2 S2][i3:Mu b w w' U J S3][i4:Mu b w w' I O S4][i5:Mu b w w' P5 E F][i6:Mu b w w' P6 Q6 S6][i7:Mu b w w' P7 Q7 S7][i8:Mu b w w' W Y S8](h1:Z)(h2:P2)(h3:U)(h4:I)(h5:P5)(h6:P6)(h7:P7)(h8:W)(k:JF b w w')(s:S1∧S2∧S3∧S4∧F∧S6∧S7∧S8:=by and_intros<;>first|trivial|omega):Q1∧Q2∧J∧O∧E∧Q6∧Q7∧Y:=⟨i1.mv h1 s.1 k,i2.mv h2 s.2.1 k,i3.mv h3 s.2.2.1 k,i4.mv h4 s.2.2.2.1 k,i5.mv h5 s.2.2.2.2.1 k,i6.mv h6 s.2.2.2.2.2.1 k,i7.mv h7 s.2.2.2.2.2.2.1 k,i8.mv h8 s.2.2.2.2.2.2.2 k⟩
theorem Sj{w w':World}{b:Nat}{E Q1 I F J S2:Prop}[i1:Mb b w w' E Q1 I][i2:Mb b w w' F J S2](U:E)(O:F)(k:Cb (pB b) w w')(s:I∧S2:=by and_intros<;>first|trivial|omega):Q1∧J:=⟨i1.mv U s.1 k,i2.mv O s.2 k⟩
theorem PR{w w':World}{b:Nat}{E Q1 W J U S2 O F I:Prop}[i1:Mb b w w' E Q1 W][i2:Mb b w w' J U S2][i3:Mb b w w' O F I](Z:E)(Y:J)(h3:O)(k:Cb (pB b) w w')(s:W∧S2∧I:=by and_intros<;>first|trivial|omega):Q1∧U∧F:=⟨i1.mv Z s.1 k,i2.mv Y s.2.1 k,i3.mv h3 s.2.2 k⟩
theorem SP{w w':World}{b:Nat}{E Q1 Z O Y S2 U F I P4 J W:Prop}[i1:Mb b w w' E Q1 Z][i2:Mb b w w' O Y S2][i3:Mb b w w' U F I][i4:Mb b w w' P4 J W](h1:E)(h2:O)(h3:U)(h4:P4)(k:Cb (pB b) w w')(s:Z∧S2∧I∧W:=by and_intros<;>first|trivial|omega):Q1∧Y∧F∧J:=⟨i1.mv h1 s.1 k,i2.mv h2 s.2.1 k,i3.mv h3 s.2.2.1 k,i4.mv h4 s.2.2.2 k⟩
theorem VO{w w':World}{b:Nat}{E Q1 S1 O Z S2 U F I P4 J W P5 Y S5:Prop}[i1:Mb b w w' E Q1 S1][i2:Mb b w w' O Z S2][i3:Mb b w w' U F I][i4:Mb b w w' P4 J W][i5:Mb b w w' P5 Y S5](h1:E)(h2:O)(h3:U)(h4:P4)(h5:P5)(k:Cb (pB b) w w')(s:S1∧S2∧I∧W∧S5:=by and_intros<;>first|trivial|omega):Q1∧Z∧F∧J∧Y:=⟨i1.mv h1 s.1 k,i2.mv h2 s.2.1 k,i3.mv h3 s.2.2.1 k,i4.mv h4 s.2.2.2.1 k,i5.mv h5 s.2.2.2.2 k⟩
theorem uB{w w':World}{b:Nat}{W Q1 S1 P2 Q2 S2 U J S3 I O S4 P5 E F P6 Y Z:Prop}[i1:Mb b w w' W Q1 S1][i2:Mb b w w' P2 Q2 S2][i3:Mb b w w' U J S3][i4:Mb b w w' I O S4][i5:Mb b w w' P5 E F][i6:Mb b w w' P6 Y Z](h1:W)(h2:P2)(h3:U)(h4:I)(h5:P5)(h6:P6)(k:Cb (pB b) w w')(s:S1∧S2∧S3∧S4∧F∧Z:=by and_intros<;>first|trivial|omega):Q1∧Q2∧J∧O∧E∧Y:=⟨i1.mv h1 s.1 k,i2.mv h2 s.2.1 k,i3.mv h3 s.2.2.1 k,i4.mv h4 s.2.2.2.1 k,i5.mv h5 s.2.2.2.2.1 k,i6.mv h6 s.2.2.2.2.2 k⟩
theorem gR{w w':World}{b:Nat}{W Q1 S1 P2 Q2 S2 U J S3 I O S4 P5 E F P6 Y Z P7 Q7 S7:Prop}[i1:Mb b w w' W Q1 S1][i2:Mb b w w' P2 Q2 S2][i3:Mb b w w' U J S3][i4:Mb b w w' I O S4][i5:Mb b w w' P5 E F][i6:Mb b w w' P6 Y Z][i7:Mb b w w' P7 Q7 S7](h1:W)(h2:P2)(h3:U)(h4:I)(h5:P5)(h6:P6)(h7:P7)(k:Cb (pB b) w w')(s:S1∧S2∧S3∧S4∧F∧Z∧S7:=by and_intros<;>first|trivial|omega):Q1∧Q2∧J∧O∧E∧Y∧Q7:=⟨i1.mv h1 s.1 k,i2.mv h2 s.2.1 k,i3.mv h3 s.2.2.1 k,i4.mv h4 s.2.2.2.1 k,i5.mv h5 s.2.2.2.2.1 k,i6.mv h6 s.2.2.2.2.2.1 k,i7.mv h7 s.2.2.2.2.2.2 k⟩
theorem Np{w w':World}{b:Nat}{Z Q1 S1 P2 Q2 S2 U J S3 I O S4 P5 E F P6 Q6 S6 P7 Q7 S7 W Y S8:Prop}[i1:Mb b w w' Z Q1 S1][i2:Mb b w w' P2 Q2 S2][i3:Mb b w w' U J S3][i4:Mb b w w' I O S4][i5:Mb b w w' P5 E F][i6:Mb b w w' P6 Q6 S6][i7:Mb b w w' P7 Q7 S7][i8:Mb b w w' W Y S8](h1:Z)(h2:P2)(h3:U)(h4:I)(h5:P5)(h6:P6)(h7:P7)(h8:W)(k:Cb (pB b) w w')(s:S1∧S2∧S3∧S4∧F∧S6∧S7∧S8:=by and_intros<;>first|trivial|omega):Q1∧Q2∧J∧O∧E∧Q6∧Q7∧Y:=⟨i1.mv h1 s.1 k,i2.mv h2 s.2.1 k,i3.mv h3 s.2.2.1 k,i4.mv h4 s.2.2.2.1 k,i5.mv h5 s.2.2.2.2.1 k,i6.mv h6 s.2.2.2.2.2.1 k,i7.mv h7 s.2.2.2.2.2.2.1 k,i8.mv h8 s.2.2.2.2.2.2.2 k⟩
end Go.Eng
namespace Go.Eng
open Go Go.RowKit
/-! ## Literals of slice types, said shortly -/
section
variable {P:Program} {N:Nat} {K:KL} {o:Oper} {w:World} {α:Type} {e:TypeId}
theorem Kp{t len parts zc sz by'}(c:FC α)(xs:List α)(S:Nat->Prop)(E:List (List Value))(ho:o.op= .buildSlice t len parts)(hu:P.underlying t=some (.slice e))(hi:Ft P e=some (zc,sz,by'))
 (Y:(NO K parts.toList).map (List.map fun p=>(p.1,p.2.cells.toList))=some (KO 0 E))
 (W:(Nat.beq sz c.n&&(Nat.blt 0 c.n&&(Nat.ble (len*sz) 16777216&&(Nat.beq E.length len&&(Nat.beq len xs.length&&E.all (fun us=>Nat.beq us.length sz))))))=true) (F:SA c w S xs E) (Z:∀k,S k->k<w.heap.size):
 Jv P N K o w (fun u w'=>∃g,u= .slice (some ⟨g,0,none⟩) len len∧g=w.heap.size∧w'.heap.size=w.heap.size+1∧Bl w w'∧AS c w' g S e xs u):=by
 obtain⟨vs,e1,e2⟩:=BL.1 Y
 simp only [AG]at W
 obtain⟨J,b2,b3,I,O,U⟩:=W
 have J:=Bh J
 have I:=Bh I
 have O:=Bh O
 exact Ka (out:=Dh E) ho hu hi e1 e2 (RY E rfl U I) b3 J b2 O (UU F rfl) Z (by rw [KK fun us h=>Bh (CX.1 U us h),I])
theorem BR{t len parts zc sz by'}(c:FC α)(xs:List α)(E:List (List Value))(ho:o.op= .buildSlice t len parts)(hu:P.underlying t=some (.slice e))(hi:Ft P e=some (zc,sz,by'))
 (I:(NO K parts.toList).map (List.map fun p=>(p.1,p.2.cells.toList))=some (KO 0 E))
 (J:(Nat.beq sz c.n&&(Nat.blt 0 c.n&&(Nat.ble (len*sz) 16777216&&(Nat.beq E.length len&&(Nat.beq len xs.length&&E.all (fun us=>Nat.beq us.length sz))))))=true) (F:SA c w (Iv 0 0) xs E):
 Jv P N K o w (fun u w'=>∃g,u= .slice (some ⟨g,0,none⟩) len len∧g=w.heap.size∧w'.heap.size=w.heap.size+1∧Bl w w'∧AS c w' g (Iv 0 0) e xs u):=
 Kp c xs (Iv 0 0) E ho hu hi I J F fun k h=>by have:=h.2;omega
theorem EB{t parts zc pl}(vs:List Value)(ho:o.op= .build t parts)(F:(NO K parts.toList).map (List.map fun p=>(p.1,p.2.cells.toList))=some (KO 0 (vs.map fun v=>[v])))(hz:GQ P t=some zc)(E:Ew P t=some pl)(I:OP pl zc (KO 0 (vs.map fun v=>[v]))=some vs):HX P N K o w (.agg vs.toArray):=by
 obtain⟨us,e1,e2⟩:=BL.1 F
 exact Bo ho e1 hz E e2 I
end
end Go.Eng
namespace Go.Eng
open Go Go.RowKit
/-! ## The rows of a slice of slices, apart from another slice -/
def Lt(v:Value)(vs:List Value):Prop:=∀(i:Nat) (u:Value),vs[i]? =some u->No v u
theorem Lt.nil(v:Value):Lt v []:=fun i u h=>by simp at h
theorem Lt.app{v:Value}{vs us:List Value}(h:Lt v vs)(E:Lt v us):Lt v (vs++us):=fun i u hu=>by
 by_cases c:i<vs.length
 ·rw [BA c]at hu;exact h i u hu
 ·rw [BI (by omega)]at hu;exact E _ u hu
section
variable {α:Type} {c:FC α} [Fy c] {w w':World} {B hi lo' hi':Nat} {e1 e2:TypeId} {xss:List (List α)} {v z:Value} {vs:List Value}
theorem Lt.of(h:own2 c w B hi e1 e2 xss v vs)(hz:Bd z lo' hi')(k:hi'<=B∨hi<=lo':=by omega):Lt z vs:=fun i u hu=>by
 have hl:=h.1.1
 have hi2:i<xss.length:=by have:=(AR.1 hu).1;omega
 obtain⟨_,q,_⟩:=h.2.1 i _ u (AK hi2) hu
 exact No.of hz q (by omega)
theorem own2.updR{b:Nat}(h:own2 c w B hi e1 e2 xss v vs)(hu:JF b w w')(F:Nb v b)(hz:z.ownBlock=some b)(J:Lt z vs):own2 c w' B hi e1 e2 xss v vs:=by
 obtain⟨a,d,e⟩:=h
 refine⟨ownsRow.keep a (fun g I=>hu.block g (F g I)),fun i xs u O E=>?_,e⟩
 obtain⟨p,q,r⟩:=d i xs u O E
 exact⟨p.keep (fun g I=>hu.block g (fun e=>J i u E _ _ hz I e.symm)) (fun _ h=>h) (fun k h=>absurd h.2 (AX k)),q,r⟩
theorem cV{u J:Value}(E:Ev w w' u J)(h:own2 c w B hi e1 e2 xss v vs)(Y:No u v)(O:Lt u vs):own2 c w' B hi e1 e2 xss v vs:=by
 have U:=h.blk
 obtain⟨a,d,e⟩:=h
 refine⟨ownsRow.keep a (fun g I=>E.1.block g (U g I).2 fun e=>Y g g e.symm I rfl),fun i xs u W F=>?_,e⟩
 obtain⟨p,q,r⟩:=d i xs u W F
 exact⟨p.keep (fun g I=>E.1.block g (p.blk g I).2 fun e=>O i _ F g g e.symm I rfl) (fun _ h=>h) (fun k h=>absurd h.2 (AX k)),q,r⟩
theorem Lt.grew{u J:Value}(E:Ev w w' u J)(O:Lt u vs)(h:own2 c w B hi e1 e2 xss v vs):Lt J vs:=fun i x F g q U I=>by
 have hl:=h.1.1
 have hi2:i<xss.length:=by have:=(AR.1 F).1;omega
 have W:=(h.2.1 i _ x (AK hi2) F).1.blk q I
 rcases E.2 g U with h1|h1
 ·exact O i x F g q h1 I
 ·omega
end
end Go.Eng
namespace Go.Eng
open Go Go.RowKit
/-! ## Own slices that move on with others -/
def OB(A:Prop)(v:Value)(lo hi:Nat):Prop:=A∧Bd v lo hi
theorem Au{A:Prop}{v:Value}{lo hi:Nat}(h:A)(k:Bd v lo hi):OB A v lo hi:=⟨h,k⟩
theorem Nb.alt{v:Value}{b lo hi:Nat}(h:Bd v lo hi)(k:b<lo∨hi<=b):∀g,v.ownBlock=some g->b≠g:=fun g E=>by have:=h g E;omega
section
variable {w w' a:World} {b lo hi B h:Nat} {e:TypeId} {α:Type} {c:FC α} {xs:List α} {v:Value}
instance [Fy c]:Mu b w w' (OB (AS c w B (Iv 0 0) e xs v) v lo hi) (AS c w' B (Iv 0 0) e xs v) (b<lo∨hi<=b):=⟨fun h s k=>AS.upd h.1 k (Nb.of h.2 s)⟩
instance:Mu b w w' (OB (AS c w B (SX B h v) e xs v) v lo hi) (AS c w' B (SX B h v) e xs v) ((b<lo∨hi<=b)∧(b<B∨h<=b)):=⟨fun h s k=>AS.updN h.1 k (Nb.of h.2 s.1) s.2⟩
instance [Fy c]:Mu b w w' (OB (Kw c w B e xs v) v lo hi) (Kw c w' B e xs v) (b<lo∨hi<=b):=⟨fun h s k=>Kw.upd h.1 k (Nb.of h.2 s)⟩
instance [Fy c]:Mb b w w' (OB (AS c w B (Iv 0 0) e xs v) v lo hi) (AS c w' B (Iv 0 0) e xs v) (b<lo∨hi<=b):=⟨fun h s k=>AS.butF h.1 k (Ab (Nb.alt h.2 s))⟩
instance:Mb b w w' (OB (AS c w B (SX B h v) e xs v) v lo hi) (AS c w' B (SX B h v) e xs v) ((b<lo∨hi<=b)∧(b<B∨h<=b)∧h<=w.heap.size):=⟨fun h s k=>AS.butN h.1 k (Ab (Nb.alt h.2 s.1)) s.2.2 (Ab s.2.1)⟩
instance [Fy c]:Mb b w w' (OB (Kw c w B e xs v) v lo hi) (Kw c w' B e xs v) (b<lo∨hi<=b):=⟨fun h s k=>Kw.butF h.1 k (Ab (Nb.alt h.2 s))⟩
theorem jO{E Q1 F:Prop}[i1:Mu b w w' E Q1 F](I:E)(k:JF b w w')(s1:F:=by and_intros<;>first|trivial|omega):Q1:=i1.mv I s1 k
theorem SC{E Q1 F:Prop}[i1:Mb b w w' E Q1 F](I:E)(k:Cb (pB b) w w')(s1:F:=by and_intros<;>first|trivial|omega):Q1:=i1.mv I s1 k
theorem Rv(h:Cb (pB b) w a)(k:Cb (pB b) a w'):Cb (pB b) w w':=Cb.but h k (Ab (Or.inl rfl))
end
end Go.Eng
namespace Go.Eng
open Go Go.RowKit
/-! ## Short words for the walks' texts: what is computed is asked for last -/
theorem z{α:Sort _}{a:α}:a=a:=rfl
@[reducible] def _root_.Go.Value.p (b:Nat):Value:=.pointer (some ⟨b,0,none⟩)
section
variable {P:Program} {N:Nat} {ops:Array Oper} {Q:Exit -> Act -> World -> Prop} {n:Nat} {K:KL} {w w0:World} {f:Nat} {listed:Array Bool} {p:Nat -> Prop}
theorem GT{o:Oper}{v:Value}(i:Nat)(hi:ops[i]? =some o)(h:∀E,Cb p w0 E->HX P N K o E v)(k:Kv P N ops n (noPan Q) p w0 f (listed.setIfInBounds i true) (DE K o.dst v) w)
 (F:Gi ops n=true:=by kernel_rfl) (hc:(Nat.blt i n&&Region.free .any ops listed i&&(Region.ready .any ops listed).contains i)=true:=by kernel_rfl) (hg:o.guard=none:=by rfl) (hd:Ep N o.dst=true:=by rfl):
 Kv P N ops n (noPan Q) p w0 (f+1) listed K w:=Kv.yld i F hi hc hg hd h k
theorem VZ{o:Oper}{Ψ:Value->Prop}(i:Nat)(hi:ops[i]? =some o)(h:YA P N K o Ψ)(k:∀v,Ψ v->Kv P N ops n (noPan Q) p w0 f (listed.setIfInBounds i true) (DE K o.dst v) w)
 (E:Gi ops n=true:=by kernel_rfl) (hc:(Nat.blt i n&&Region.free .any ops listed i&&(Region.ready .any ops listed).contains i)=true:=by kernel_rfl) (hg:o.guard=none:=by rfl) (hd:Ep N o.dst=true:=by rfl):
 Kv P N ops n (noPan Q) p w0 (f+1) listed K w:=Kv.ya i E hi hc hg hd h k
theorem KQ{o:Oper}{R:Value->World->Prop}(i:Nat)(hi:ops[i]? =some o)(h:Jv P N K o w R)(k:∀v w',R v w'->Cb p w0 w'∧Kv P N ops n (noPan Q) p w0 f (listed.setIfInBounds i true) (DE K o.dst v) w')
 (E:Nat.blt i n=true:=by rfl) (hr:Region.ready .any ops listed=[i]:=by kernel_rfl) (hg:o.guard=none:=by rfl) (hd:Ep N o.dst=true:=by rfl):Kv P N ops n (noPan Q) p w0 (f+1) listed K w:=Kv.eff i hi E hr hg hd h k
theorem GBA{o:Oper}{R:Value->World->Prop}(i:Nat)(hi:ops[i]? =some o)(h:Jv P N K o w R)(k:∀v w',R v w'->Cb p w0 w'∧Kv P N ops n (noPan Q) p w0 f (listed.setIfInBounds i true) (DE K o.dst v) w')
 (E:Nat.blt i n=true:=by rfl) (hr:(Region.ready .any ops listed).contains i=true:=by kernel_rfl) (hg:o.guard=none:=by rfl) (hd:Ep N o.dst=true:=by rfl):sR P N ops n (noPan Q) p w0 f listed K w i:=sR.eff i hi E hr hg hd h k
theorem zK{o:Oper}{R:Value->World->Prop}(i:Nat)(hi:ops[i]? =some o)(h:Jv P N K o w R)(k:∀v w',R v w'->Bl w0 w'∧HL P N ops n (noPan Q) w0 f (listed.setIfInBounds i true) (DE K o.dst v) w')
 (E:Nat.blt i n=true:=by rfl) (hr:(Region.ready .any ops listed).contains i=true:=by kernel_rfl) (h0:Iy N ops K o= .yes:=by rfl):HB P N ops n (noPan Q) w0 f listed K w i:=HBe i hi E hr h0 h k
theorem Nq{o:Oper}{R:Value->World->Prop}(i:Nat)(hi:ops[i]? =some o)(h:Jv P N K o w R)(k:∀v w',R v w'->Bl w0 w'∧HL P N ops n (noPan Q) w0 f (listed.setIfInBounds i true) (DE K o.dst v) w')
 (E:Nat.blt i n=true:=by rfl) (hr:Region.ready .any ops listed=[i]:=by kernel_rfl) (h0:Iy N ops K o= .yes:=by rfl):HL P N ops n (noPan Q) w0 (f+1) listed K w:=HLe i hi E hr h0 h k
theorem CK{o:Oper}{v:Value}(i:Nat)(E:Gi ops n=true)(hi:ops[i]? =some o)(h:HX P N K o w0 v)(k:HL P N ops n (noPan Q) w0 f (listed.setIfInBounds i true) (DE K o.dst v) w)
 (hc:(Nat.blt i n&&Region.free .any ops listed i&&(Region.ready .any ops listed).contains i)=true:=by kernel_rfl) (h0:Iy N ops K o= .yes:=by rfl):HL P N ops n (noPan Q) w0 (f+1) listed K w:=HLy i E hi hc h0 h k
theorem JA{o:Oper}{Ψ:Value->Prop}(i:Nat)(E:Gi ops n=true)(hi:ops[i]? =some o)(h:YE P N K o w0 Ψ)(k:∀v,Ψ v->HL P N ops n (noPan Q) w0 f (listed.setIfInBounds i true) (DE K o.dst v) w)
 (hc:(Nat.blt i n&&Region.free .any ops listed i&&(Region.ready .any ops listed).contains i)=true:=by kernel_rfl) (h0:Iy N ops K o= .yes:=by rfl):HL P N ops n (noPan Q) w0 (f+1) listed K w:=AcJ i E hi hc h0 h k
theorem JX{l:List Oper}(F:ops=l.toArray)(k:TL P N ops (noPan Q) (l.drop n) K w)(E:Region.seqB .any ops (l.drop n).length n listed=true:=by kernel_rfl)(hf:f=(l.drop n).length:=by rfl):HL P N ops n (noPan Q) w0 f listed K w:=HL.tail F E hf k
theorem RF{l:List Oper}(F:ops=l.toArray)(k:TL P N ops (noPan Q) (l.drop n) K w)(E:Region.seqB .any ops (l.drop n).length n listed=true:=by kernel_rfl)(hf:f=(l.drop n).length:=by rfl):Kv P N ops n (noPan Q) p w0 f listed K w:=Kv.tail F E hf k
theorem GF(E:Gi ops n=true)(is:List Nat){f:Nat}{listed:Array Bool}{K:KL}(h:eU P N ops n Q w0 is f listed K w)(hc:rD ops n is listed=true:=by kernel_rfl):HL P N ops n (noPan Q) w0 f listed K w:=Hr E is hc h
theorem EP{id:Nat}{l:List Oper}(n:Nat)(hm:P.follows .mixedOrders=true)(h:∀w',Bl w w'->Gi l.toArray n=true->HL P N l.toArray n (noPan Q) w' l.length (Array.replicate l.length false) K w')(E:Gi l.toArray n=true:=by kernel_rfl):
 WC P N (.region id l.toArray true) Q K w:=WC.heldD n hm E h
theorem EM{id:Nat}{l:List Oper}(hm:P.follows .mixedOrders=true)(h:QL P N l.toArray w (fun F=>∀w',Bl w w'->Q .normal F w') l K)(E:Region.lexB .any l.toArray=true:=by kernel_rfl):WC P N (.region id l.toArray true) Q K w:=WC.quiet hm E h
theorem Ks{K':KL}(e:K'.map (fun p=>kl K p.1)=K'.map (fun p=>some p.2):=by rfl):QL P N ops w (fun a=>Kn N K' a) [] K:=QL.nil fun a h=>h.sub e
end
section
variable {P:Program} {N:Nat} {Q0:Exit -> Act -> World -> Prop} {K K':KL} {w:World} {fs:List Frame} {ops:Array Oper} {l:List Oper}
theorem HR{R:World->Prop}(r:R w)(e:K'.map (fun p=>kl K p.1)=K'.map (fun p=>some p.2):=by rfl):TL P N ops (IQ P Q0 (.lp (fun a u=>Kn N K' a∧R u)::fs)) [] K w:=TL.nil fun _ h=>⟨h.sub e,r⟩
def Tc(K:KL):List Nat->KL->Option KL
 |[],acc=>some acc
 |i::is,acc=>match kl K i with
  |some v=>Tc K is ((i,v)::acc)
  |none=>none
end
section
variable {P:Program} {N:Nat} {ops:Array Oper} {Q:Exit -> Act -> World -> Prop} {K:KL} {w:World} {l:List Oper} {Qa:Act -> Prop}
theorem Kd(t:Nat){c:Bool}(h:kl K t=some (.bool c))(E:c=true->TL P N ops Q l ((t,.bool true)::K) w)(F:c=false->TL P N ops Q l ((t,.bool false)::K) w):TL P N ops Q l K w:=by
 rcases bft c with e|e
 ·exact Kc t e h (E e)
 ·exact Kc t e h (F e)
theorem Ke{α:Type}(t:Nat){c:Bool}{x y:Option α}{r:α}(h:kl K t=some (.bool c))(e:(bif c then x else y)=some r)(E:c=true->x=some r->TL P N ops Q l ((t,.bool true)::K) w)(F:c=false->y=some r->TL P N ops Q l ((t,.bool false)::K) w):TL P N ops Q l K w:=
 Kd t h (fun j=>E j (Pi j e)) fun j=>F j (PV j e)
theorem Kdq(t:Nat){c:Bool}(h:kl K t=some (.bool c))(E:c=true->QL P N ops w Qa l ((t,.bool true)::K))(F:c=false->QL P N ops w Qa l ((t,.bool false)::K)):QL P N ops w Qa l K:=by
 rcases bft c with e|e
 ·exact Kq t e h (E e)
 ·exact Kq t e h (F e)
end
theorem Ae.oj{α:Type}{c:FC α}{w w':World}{lo H:Nat}{xs:List α}{v:Value}(h:Ae c w (Iv lo H) xs v)(E:Bl w w')(F:H<=w.heap.size:=by assumption):Ae c w' (Iv lo H) xs v:=h.old E F
theorem En{P:Program}{N:Nat}{c:Code}{Q:Exit->Act->World->Prop}{K:KL}{w:World}{a:Act}(E:Kn N K a)(h:WC P N c Q K w):c.wp P Q a w:=h a E
section
variable (P:Program) (N:Nat) (ops:Array Oper) (n:Nat) (Q:Exit -> Act -> World -> Prop) (p:Nat -> Prop) (w0:World)
def gK:List Nat->Nat->Array Bool->KL->World->Prop
 |[]=>fun f listed K w=>Kv P N ops n (noPan Q) p w0 f listed K w
 |i::is=>fun f listed K w=>match f with
  |0=>False
  |f+1=>match ops[i]? with
   |none=>False
   |some o=>match o.guard with
    |some _=>False
    |none=>match Ep N o.dst with
     |false=>False
     |true=>match yq K o.op with
      |some v=>gK is f (listed.setIfInBounds i true) (DE K o.dst v) w
      |none=>False
end
section
variable {P:Program} {N:Nat} {ops:Array Oper} {Q:Exit -> Act -> World -> Prop} {n:Nat} {p:Nat -> Prop} {w w0:World}
theorem GrA(F:Gi ops n=true):∀(is:List Nat) {f:Nat} {listed:Array Bool} {K:KL},rD ops n is listed=true->gK P N ops n Q p w0 is f listed K w->Kv P N ops n (noPan Q) p w0 f listed K w
 |[],_,_,_,_,h=>h
 |i::is,0,listed,K,_,h=>h.elim
 |i::is,f+1,listed,K,hc,h=>by
  simp only [rD,AG]at hc
  have E:(Nat.blt i n&&Region.free .any ops listed i&&(Region.ready .any ops listed).contains i)=true:=by simp only [AG];exact hc.1
  simp only [gK]at h
  split at h
  ·exact h.elim
  ·rename_i o hi
   split at h
   ·exact h.elim
   ·rename_i O
    split at h
    ·exact h.elim
    ·rename_i I
     split at h
     ·rename_i v J;exact Kv.yld i F hi E O I (fun U _=>LV J) (GrA F is hc.2 h)
     ·exact h.elim
theorem KS(is:List Nat){f:Nat}{listed:Array Bool}{K:KL}(h:gK P N ops n Q p w0 is f listed K w)(E:Gi ops n=true:=by kernel_rfl)(hc:rD ops n is listed=true:=by kernel_rfl):Kv P N ops n (noPan Q) p w0 f listed K w:=GrA E is hc h
end
@[reducible] def Cx (v:Value) (w:World):Ending->World->Prop:=Gh fun u U=>u=v∧Bl w U
theorem SM{p:Nat->Prop}{w a c:World}{b:Nat}(h:Cb p w a)(hu:JF b a c)(E:w.heap.size<=b:=by omega):Cb p w c∧c.heap.size=a.heap.size:=Tm h hu (.inr E)
@[reducible] def BD {α:Type} (c:FC α) (w:World) (H:Nat) (xs:List α) (v:Value):Prop:=Ae c w (Iv 0 H) xs v
end Go.Eng
namespace Go.Eng
open Go Go.RowKit
/-! ## Several steps in one word -/
@[reducible] def qD (us:List Value) (i:Nat) (Z:Value->Prop):Prop:=match us[i]? with
 |some u=>Z u
 |none=>False
theorem qD.ok{us:List Value}{i:Nat}{Z:Value->Prop}(h:qD us i Z):∃u,us[i]? =some u∧Z u:=by
 unfold qD at h
 split at h
 ·rename_i u hu;exact⟨u,hu,h⟩
 ·exact h.elim
section
variable {P:Program} {N:Nat} {ops:Array Oper} {Q:Exit -> Act -> World -> Prop} {K:KL} {w w0:World} {o o2 o3:Oper} {rest:List Oper} {Qa:Act -> Prop} {α β:Type} {r:β}
theorem Cs{A:Option α}{g:α->Option β}{E:α->Value}{f:Nat}{vs:List Value}(W:A.bind g=some r)(I:Bl w0 w)(F:Bm P f=true)
 (hc:∀x,A=some x->Calls P f vs.toArray w (Cx (E x) w)) (k:∀x,g x=some r->∀w',Bl w w'->Bl w0 w'∧w.heap.size<=w'.heap.size->TL P N ops Q rest (DE K o.dst (E x)) w')
 (U:Iy N ops K o= .yes:=by rfl) (hcl:sS K o.op=some (f,vs):=by rfl):TL P N ops Q (o::rest) K w:=by
 obtain⟨x,O,J⟩:=AY W
 refine Ef U (Ga hcl F (hc _ O)) fun v w' h=>?_
 obtain⟨rfl,h⟩:=h
 exact k x J w' h (Et I h)
theorem Cg{A:Option α}{g:α->Option β}{R:α->Value->World->Prop}{f:Nat}{vs:List Value}(O:A.bind g=some r)(E:Bm P f=true)
 (hc:∀x,A=some x->Calls P f vs.toArray w (Gh (R x))) (k:∀x,g x=some r->∀v w',R x v w'->TL P N ops Q rest (DE K o.dst v) w')
 (J:Iy N ops K o= .yes:=by rfl) (hcl:sS K o.op=some (f,vs):=by rfl):TL P N ops Q (o::rest) K w:=by
 obtain⟨x,I,F⟩:=AY O
 exact Ef J (Ga hcl E (hc _ I)) fun v w' h=>k x F v w' h
section
variable {c:FC α} {xs:List α} {S:Nat -> Prop} {v:Value} {e t t2 B:Nat} {m:Int} {kk:IntKind} {g:α -> Option β} {sv:α -> Value}
theorem Ix(O:(AU xs m).bind g=some r)(J:Ae c w S xs v)(hu:P.underlying t=some (.slice e))(hc:Cp P e=some c.n)
 (k:∀y,AU xs m=some y->g y=some r->∀u,(∃b off us,u= .pointer (some ⟨b,off,none⟩)∧S b∧c.rep w S y us∧BK w b off us)->TL P N ops Q rest (DE K o.dst u) w)
 (I:Iy N ops K o= .yes:=by rfl) (hi:YY K o.op=some (t,v,kk,m):=by rfl):TL P N ops Q (o::rest) K w:=by
 obtain⟨y,E,F⟩:=AY O
 exact Ye I (KI hi hu hc J E) fun u h=>k y E F u h
theorem Io(O:(AU xs m).bind g=some r)(J:AS c w B S e xs v)(hu:P.underlying t=some (.slice e))(hc:Cp P e=some c.n)
 (k:∀y,AU xs m=some y->g y=some r->∀u,(∃b us,u= .pointer (some ⟨b,0+m.toNat*c.n,none⟩)∧v.ownBlock=some b∧c.rep w S y us∧BK w b (0+m.toNat*c.n) us)->TL P N ops Q rest (DE K o.dst u) w)
 (I:Iy N ops K o= .yes:=by rfl) (hi:YY K o.op=some (t,v,kk,m):=by rfl):TL P N ops Q (o::rest) K w:=by
 obtain⟨y,E,F⟩:=AY O
 exact Ye I (Oe hi hu hc J E) fun u h=>k y E F u h
theorem Iq(O:(AU xs m).bind g=some r)(J:Ae c w S xs v)(hu:P.underlying t=some (.slice e))(hc:Cp P e=some c.n)
 (k:∀y,AU xs m=some y->g y=some r->∀u,(∃b off us,u= .pointer (some ⟨b,off,none⟩)∧S b∧c.rep w S y us∧BK w b off us)->QL P N ops w Qa rest (DE K o.dst u))
 (I:Iy N ops K o= .yes:=by rfl) (hi:YY K o.op=some (t,v,kk,m):=by rfl):QL P N ops w Qa (o::rest) K:=by
 obtain⟨y,E,F⟩:=AY O
 exact Qe I (KI hi hu hc J E) fun u h=>k y E F u h
theorem pQ(O:(AU xs m).bind g=some r)(J:AS c w B S e xs v)(hu:P.underlying t=some (.slice e))(hc:Cp P e=some c.n)
 (k:∀y,AU xs m=some y->g y=some r->∀u,(∃b us,u= .pointer (some ⟨b,0+m.toNat*c.n,none⟩)∧v.ownBlock=some b∧c.rep w S y us∧BK w b (0+m.toNat*c.n) us)->QL P N ops w Qa rest (DE K o.dst u))
 (I:Iy N ops K o= .yes:=by rfl) (hi:YY K o.op=some (t,v,kk,m):=by rfl):QL P N ops w Qa (o::rest) K:=by
 obtain⟨y,E,F⟩:=AY O
 exact Qe I (Oe hi hu hc J E) fun u h=>k y E F u h
theorem Il(W:(AU xs m).bind g=some r)(U:Ae c w S xs v)(hu:P.underlying t=some (.slice e))(hc:Cp P e=some c.n)(J:Ei P t2=some false)
 (k:∀y,g y=some r->∀u,TL P N ops Q rest (DE (DE K o.dst u) o2.dst (sv y)) w)
 (F:∀y us,c.rep w S y us->us=[sv y]:=by exact fun _ _ h=>h) (h0:Iy N ops K o= .yes:=by rfl) (hi:YY K o.op=some (t,v,kk,m):=by rfl)
 (h2:∀u,Iy N ops (DE K o.dst u) o2= .yes:=by intro _;rfl) (hl:∀b off,WT (DE K o.dst (.pointer (some ⟨b,off,none⟩))) o2.op=some (t2,b,off):=by intro _ _;rfl):TL P N ops Q (o::o2::rest) K w:=by
 refine Ix W U hu hc (fun y _ O u h=>?_) h0 hi
 obtain⟨b,off,us,rfl,_,E,I⟩:=h
 have E:=F _ _ E
 subst E
 exact Yl (h2 _) (HW 0 (hl _ _) J I rfl rfl) (k y O _)
theorem OE(W:(AU xs m).bind g=some r)(U:AS c w B S e xs v)(hu:P.underlying t=some (.slice e))(hc:Cp P e=some c.n)(J:Ei P t2=some false)
 (k:∀y,g y=some r->∀u,TL P N ops Q rest (DE (DE K o.dst u) o2.dst (sv y)) w)
 (F:∀y us,c.rep w S y us->us=[sv y]:=by exact fun _ _ h=>h) (h0:Iy N ops K o= .yes:=by rfl) (hi:YY K o.op=some (t,v,kk,m):=by rfl)
 (h2:∀u,Iy N ops (DE K o.dst u) o2= .yes:=by intro _;rfl) (hl:∀b off,WT (DE K o.dst (.pointer (some ⟨b,off,none⟩))) o2.op=some (t2,b,off):=by intro _ _;rfl):TL P N ops Q (o::o2::rest) K w:=by
 refine Io W U hu hc (fun y _ O u h=>?_) h0 hi
 obtain⟨b,us,rfl,_,E,I⟩:=h
 have E:=F _ _ E
 subst E
 exact Yl (h2 _) (HW 0 (hl _ _) J I rfl rfl) (k y O _)
theorem TF(W:(AU xs m).bind g=some r)(U:Ae c w S xs v)(hu:P.underlying t=some (.slice e))(hc:Cp P e=some c.n)(J:Ei P t2=some false)
 (k:∀y,g y=some r->∀u,QL P N ops w Qa rest (DE (DE K o.dst u) o2.dst (sv y)))
 (F:∀y us,c.rep w S y us->us=[sv y]:=by exact fun _ _ h=>h) (h0:Iy N ops K o= .yes:=by rfl) (hi:YY K o.op=some (t,v,kk,m):=by rfl)
 (h2:∀u,Iy N ops (DE K o.dst u) o2= .yes:=by intro _;rfl) (hl:∀b off,WT (DE K o.dst (.pointer (some ⟨b,off,none⟩))) o2.op=some (t2,b,off):=by intro _ _;rfl):QL P N ops w Qa (o::o2::rest) K:=by
 refine Iq W U hu hc (fun y _ O u h=>?_) h0 hi
 obtain⟨b,off,us,rfl,_,E,I⟩:=h
 have E:=F _ _ E
 subst E
 exact Qy (h2 _) (HW 0 (hl _ _) J I rfl rfl) (k y O _)
theorem Ys(W:(AU xs m).bind g=some r)(U:AS c w B S e xs v)(hu:P.underlying t=some (.slice e))(hc:Cp P e=some c.n)(J:Ei P t2=some false)
 (k:∀y,g y=some r->∀u,QL P N ops w Qa rest (DE (DE K o.dst u) o2.dst (sv y)))
 (F:∀y us,c.rep w S y us->us=[sv y]:=by exact fun _ _ h=>h) (h0:Iy N ops K o= .yes:=by rfl) (hi:YY K o.op=some (t,v,kk,m):=by rfl)
 (h2:∀u,Iy N ops (DE K o.dst u) o2= .yes:=by intro _;rfl) (hl:∀b off,WT (DE K o.dst (.pointer (some ⟨b,off,none⟩))) o2.op=some (t2,b,off):=by intro _ _;rfl):QL P N ops w Qa (o::o2::rest) K:=by
 refine pQ W U hu hc (fun y _ O u h=>?_) h0 hi
 obtain⟨b,us,rfl,_,E,I⟩:=h
 have E:=F _ _ E
 subst E
 exact Qy (h2 _) (HW 0 (hl _ _) J I rfl rfl) (k y O _)
end
section
variable {t f fo t2 t3 b T e off:Nat} {us:List Value} {c:FC α} {xs:List α} {S:Nat -> Prop} {v:Value}
theorem Fl(E:BT P t f=some fo)(I:Ei P t2=some false)(J:Bu w b us T)(k:qD us (0+fo) fun u=>TL P N ops Q rest (DE (DE K o.dst (.pointer (some ⟨b,0+fo,none⟩))) o2.dst u) w)
 (F:Iy N ops K o= .yes:=by rfl) (hi:jC K o.op=some (t,f,b,0):=by rfl) (h2:Iy N ops (DE K o.dst (.pointer (some ⟨b,0+fo,none⟩))) o2= .yes:=by rfl)
 (hl:WT (DE K o.dst (.pointer (some ⟨b,0+fo,none⟩))) o2.op=some (t2,b,0+fo):=by rfl):TL P N ops Q (o::o2::rest) K w:=by
 obtain⟨u,hu,k⟩:=k.ok
 exact Yl F (DJ hi E) (Yl h2 (FB hl I J hu) k)
theorem Fq(E:BT P t f=some fo)(I:Ei P t2=some false)(J:Bu w b us T)(k:qD us (0+fo) fun u=>QL P N ops w Qa rest (DE (DE K o.dst (.pointer (some ⟨b,0+fo,none⟩))) o2.dst u))
 (F:Iy N ops K o= .yes:=by rfl) (hi:jC K o.op=some (t,f,b,0):=by rfl) (h2:Iy N ops (DE K o.dst (.pointer (some ⟨b,0+fo,none⟩))) o2= .yes:=by rfl)
 (hl:WT (DE K o.dst (.pointer (some ⟨b,0+fo,none⟩))) o2.op=some (t2,b,0+fo):=by rfl):QL P N ops w Qa (o::o2::rest) K:=by
 obtain⟨u,hu,k⟩:=k.ok
 exact Qy F (DJ hi E) (Qy h2 (FB hl I J hu) k)
theorem Fc(E:BT P t f=some fo)(I:Ei P t2=some false)(J:BK w b off us)(k:qD us fo fun u=>TL P N ops Q rest (DE (DE K o.dst (.pointer (some ⟨b,off+fo,none⟩))) o2.dst u) w)
 (F:Iy N ops K o= .yes:=by rfl) (hi:jC K o.op=some (t,f,b,off):=by rfl) (h2:Iy N ops (DE K o.dst (.pointer (some ⟨b,off+fo,none⟩))) o2= .yes:=by rfl)
 (hl:WT (DE K o.dst (.pointer (some ⟨b,off+fo,none⟩))) o2.op=some (t2,b,off+fo):=by rfl):TL P N ops Q (o::o2::rest) K w:=by
 obtain⟨u,hu,k⟩:=k.ok
 exact Yl F (DJ hi E) (Yl h2 (HW fo hl I J rfl hu) k)
theorem QX(E:BT P t f=some fo)(I:Ei P t2=some false)(J:BK w b off us)(k:qD us fo fun u=>QL P N ops w Qa rest (DE (DE K o.dst (.pointer (some ⟨b,off+fo,none⟩))) o2.dst u))
 (F:Iy N ops K o= .yes:=by rfl) (hi:jC K o.op=some (t,f,b,off):=by rfl) (h2:Iy N ops (DE K o.dst (.pointer (some ⟨b,off+fo,none⟩))) o2= .yes:=by rfl)
 (hl:WT (DE K o.dst (.pointer (some ⟨b,off+fo,none⟩))) o2.op=some (t2,b,off+fo):=by rfl):QL P N ops w Qa (o::o2::rest) K:=by
 obtain⟨u,hu,k⟩:=k.ok
 exact Qy F (DJ hi E) (Qy h2 (HW fo hl I J rfl hu) k)
theorem He(E:BT P t f=some fo)(J:Ei P t2=some false)(O:Bu w b us T)(F:P.underlying t3=some (.slice e))(U:Ae c w S xs v)
 (k:TL P N ops Q rest (DE (DE (DE K o.dst (.pointer (some ⟨b,0+fo,none⟩))) o2.dst v) o3.dst (.int .i64 xs.length)) w) (I:us[0+fo]? =some v:=by rfl)
 (h0:Iy N ops K o= .yes:=by rfl) (hi:jC K o.op=some (t,f,b,0):=by rfl) (h2:Iy N ops (DE K o.dst (.pointer (some ⟨b,0+fo,none⟩))) o2= .yes:=by rfl)
 (hl:WT (DE K o.dst (.pointer (some ⟨b,0+fo,none⟩))) o2.op=some (t2,b,0+fo):=by rfl) (h3:Iy N ops (DE (DE K o.dst (.pointer (some ⟨b,0+fo,none⟩))) o2.dst v) o3= .yes:=by rfl)
 (hl3:sU (DE (DE K o.dst (.pointer (some ⟨b,0+fo,none⟩))) o2.dst v) o3.op=some (t3,v):=by rfl):TL P N ops Q (o::o2::o3::rest) K w:=
 Yl h0 (DJ hi E) (Yl h2 (FB hl J O I) (Yl h3 (IF hl3 F U) k))
theorem VG(E:BT P t f=some fo)(J:Ei P t2=some false)(O:Bu w b us T)(F:P.underlying t3=some (.slice e))(U:Ae c w S xs v)
 (k:QL P N ops w Qa rest (DE (DE (DE K o.dst (.pointer (some ⟨b,0+fo,none⟩))) o2.dst v) o3.dst (.int .i64 xs.length))) (I:us[0+fo]? =some v:=by rfl)
 (h0:Iy N ops K o= .yes:=by rfl) (hi:jC K o.op=some (t,f,b,0):=by rfl) (h2:Iy N ops (DE K o.dst (.pointer (some ⟨b,0+fo,none⟩))) o2= .yes:=by rfl)
 (hl:WT (DE K o.dst (.pointer (some ⟨b,0+fo,none⟩))) o2.op=some (t2,b,0+fo):=by rfl) (h3:Iy N ops (DE (DE K o.dst (.pointer (some ⟨b,0+fo,none⟩))) o2.dst v) o3= .yes:=by rfl)
 (hl3:sU (DE (DE K o.dst (.pointer (some ⟨b,0+fo,none⟩))) o2.dst v) o3.op=some (t3,v):=by rfl):QL P N ops w Qa (o::o2::o3::rest) K:=
 Qy h0 (DJ hi E) (Qy h2 (FB hl J O I) (Qy h3 (IF hl3 F U) k))
end
end
/-! ## A fork one of whose ways returns at once -/
section
variable (N:Nat)
def RX:Nat->Md->List Frame->KL->Option KL
 |0=>fun _ _ _=>none
 |n+1=>fun m fs K=>match m with
  | .c c=>match c with
   | .seq x y=>RX n (.c x) (.seq y::fs) K
   | .region _ ops false=>RX n (.o ops ops.toList) fs K
   | .block id x=>RX n (.c x) (.blk id::fs) K
   | .skip=>RX n (.e .normal) fs K
   | .exit id=>RX n (.e (.exit id)) fs K
   | .ret=>RX n (.e .ret) fs K
   |_=>none
  | .o ops l=>match l with
   |[]=>RX n (.e .normal) fs K
   |o::rest=>match Iy N ops K o with
    | .yes=>match yq K o.op with
     |some v=>RX n (.o ops rest) fs (DE K o.dst v)
     |none=>none
    | .skip=>RX n (.o ops rest) fs (DE K o.dst undef)
    | .no=>none
  | .e e=>match fs with
   |[]=>match e with
    | .ret=>some K
    |_=>none
   | .seq c::fs=>match e with
    | .normal=>RX n (.c c) fs K
    | .ret=>RX n (.e .ret) fs K
    | .exit id=>RX n (.e (.exit id)) fs K
    |_=>none
   | .blk id::fs=>match e with
    | .normal=>RX n (.e .normal) fs K
    | .ret=>RX n (.e .ret) fs K
    | .exit id'=>bif Nat.beq id' id then RX n (.e .normal) fs K else RX n (.e (.exit id')) fs K
    |_=>none
   | .lp f::fs=>match e with
    | .ret=>RX n (.e .ret) fs K
    | .exit id=>RX n (.e (.exit id)) fs K
    |_=>none
end
section
variable {P:Program} {N:Nat} {Q0:Exit -> Act -> World -> Prop}
theorem RX.ok:∀(n:Nat) {m:Md} {fs:List Frame} {K K':KL} {w:World},RX N n m fs K=some K'->NX N Q0 .ret K' w->zA P N Q0 m fs K w
 |0,_,_,_,_,_,h,_=>by cases h
 |n+1,m,fs,K,K',w,h,q=>by
  cases m with
  |c c=>
   cases c with
   |seq x y=>exact WC.seq (RX.ok n h q)
   |region id ops d=>
    cases d with
    |false=>
     have F:TL P N ops (IQ P Q0 fs) ops.toList K w:=RX.ok n h q
     show WC P N (.region id ops false) (IQ P Q0 fs) K w
     have:ops=ops.toList.toArray:=by simp
     rw [this];rw [this]at F
     exact WC.region (by simpa using F)
    |true=>cases h
   |block id x=>exact WC.block (RX.ok n h q)
   |skip=>exact WC.skip' (RX.ok n h q)
   |exit id=>exact WC.exit' (RX.ok n h q)
   |ret=>exact WC.ret' (RX.ok n h q)
   |cond _ _ _=>cases h
   |loop _=>cases h
   |_=>cases h
  |o ops l=>
   cases l with
   |nil=>exact TL.done (RX.ok n h q)
   |cons o rest=>
    simp only [RX]at h
    split at h
    ·rename_i E
     split at h
     ·rename_i v I;exact Yl E (LV I) (RX.ok n h q)
     ·cases h
    ·rename_i E;exact Sk E (RX.ok n h q)
    ·cases h
  |e e=>
   cases fs with
   |nil=>
    cases e with
    |ret=>obtain rfl:=Ai h;exact q
    |_=>cases h
   |cons f fs=>
    cases f with
    |seq c=>
     cases e with
     |normal=>exact NX.seq (RX.ok n h q)
     |ret=>exact NX.then_r (RX.ok n h q)
     |exit id=>exact NX.then_e (RX.ok n h q)
     |_=>cases h
    |blk id=>
     cases e with
     |normal=>exact NX.blk_n (RX.ok n h q)
     |ret=>exact NX.blk_r (RX.ok n h q)
     |exit id'=>
      simp only [RX]at h
      cases hb:Nat.beq id' id with
      |true=>
       rw [hb]at h
       obtain rfl:=Bh hb
       exact NX.blk_hit (RX.ok n h q)
      |false=>rw [hb]at h;exact NX.blk_miss hb (RX.ok n h q)
     |_=>cases h
    |lp f=>
     cases e with
     |normal=>cases h
     |ret=>exact NX.then_r (RX.ok n h q)
     |exit id=>exact NX.then_e (RX.ok n h q)
     |_=>cases h
def RV(N n:Nat)(m:Md)(fs:List Frame)(K:KL)(rs:List ResultVar):Option Value:=match RX N n m fs K with
 |some K'=>match Yw K' rs with
  |some vs=>some (Hd vs)
  |none=>none
 |none=>none
theorem RV.ok{n:Nat}{m:Md}{fs:List Frame}{K:KL}{w:World}{fn:Func}{v:Value}{R:Ending->World->Prop}(h:RV N n m fs K fn.results.toList=some v)(I:R (.returned v) w):zA P N (bodyPost P fn R) m fs K w:=by
 unfold RV at h
 split at h
 ·rename_i K' E
  split at h
  ·rename_i vs F
   obtain rfl:=Ai h
   exact RX.ok n E (Ne (by simp) F I)
  ·cases h
 ·cases h
variable {α:Type} {c:Operand} {x y:Code} {t:Bool} {u:α} {A B:Option α} {r:α} {v:Value} {X:World -> Prop} {fn:Func} {fs:List Frame} {K:KL} {w:World}
theorem Wt(F:(bif t then some u else B)=some r)(E:X w)(k:B=some r->WC P N y (IQ P (bodyPost P fn (Gh fun z U=>z=v∧X U)) fs) K w)(hc:ES K c=some (.bool t):=by rfl)(hv:u=r->RV N 99 (.c x) fs K fn.results.toList=some v:=by intro h;subst h;rfl):
 WC P N (.cond c x y) (IQ P (bodyPost P fn (Gh fun z U=>z=v∧X U)) fs) K w:=
 Wc hc F (fun h=>RV.ok (m:=.c x) (hv (VA h)) ⟨_,rfl,rfl,E⟩) k
theorem Wf(F:(bif t then A else some u)=some r)(E:X w)(k:A=some r->WC P N x (IQ P (bodyPost P fn (Gh fun z U=>z=v∧X U)) fs) K w)(hc:ES K c=some (.bool t):=by rfl)(hv:u=r->RV N 99 (.c y) fs K fn.results.toList=some v:=by intro h;subst h;rfl):
 WC P N (.cond c x y) (IQ P (bodyPost P fn (Gh fun z U=>z=v∧X U)) fs) K w:=
 Wc hc F k fun h=>RV.ok (m:=.c y) (hv (VA h)) ⟨_,rfl,rfl,E⟩
theorem lP{c:Code}(I:some u=some r)(E:X w)(F:u=r->RV N 99 (.c c) fs K fn.results.toList=some v:=by intro h;subst h;rfl):WC P N c (IQ P (bodyPost P fn (Gh fun z U=>z=v∧X U)) fs) K w:=RV.ok (m:=.c c) (F (VA I)) ⟨_,rfl,rfl,E⟩
theorem Gv{ops:Array Oper}{l:List Oper}(I:some u=some r)(E:X w)(F:u=r->RV N 99 (.o ops l) fs K fn.results.toList=some v:=by intro h;subst h;rfl):TL P N ops (IQ P (bodyPost P fn (Gh fun z U=>z=v∧X U)) fs) l K w:=RV.ok (m:=.o ops l) (F (VA I)) ⟨_,rfl,rfl,E⟩
theorem WR{e:Exit}(I:some u=some r)(E:X w)(F:u=r->RV N 99 (.e e) fs K fn.results.toList=some v:=by intro h;subst h;rfl):NX N (IQ P (bodyPost P fn (Gh fun z U=>z=v∧X U)) fs) e K w:=RV.ok (m:=.e e) (F (VA I)) ⟨_,rfl,rfl,E⟩
end
section
variable {κ ρ s1 s2 s3 s4 s5 s6 s7 s8:Type} {r:ρ} {k:κ}
theorem WU{L:κ->s1->s2->Option ρ}{a b}(h:L k a b=some r):∃E,E=k∧L E a b=some r:=⟨k,rfl,h⟩
theorem Nr{L:κ->s1->s2->s3->Option ρ}{a b c}(h:L k a b c=some r):∃E,E=k∧L E a b c=some r:=⟨k,rfl,h⟩
theorem nE{L:κ->s1->s2->s3->s4->Option ρ}{a b c d}(h:L k a b c d=some r):∃E,E=k∧L E a b c d=some r:=⟨k,rfl,h⟩
theorem ZT{L:κ->s1->s2->s3->s4->s5->Option ρ}{a b c d e}(h:L k a b c d e=some r):∃E,E=k∧L E a b c d e=some r:=⟨k,rfl,h⟩
theorem yV{L:κ->s1->s2->s3->s4->s5->s6->Option ρ}{a b c d e f}(h:L k a b c d e f=some r):∃E,E=k∧L E a b c d e f=some r:=⟨k,rfl,h⟩
theorem GkG{L:κ->s1->s2->s3->s4->s5->s6->s7->Option ρ}{a b c d e f g}(h:L k a b c d e f g=some r):∃E,E=k∧L E a b c d e f g=some r:=⟨k,rfl,h⟩
theorem GkH{L:κ->s1->s2->s3->s4->s5->s6->s7->s8->Option ρ}{a b c d e f g i}(h:L k a b c d e f g i=some r):∃E,E=k∧L E a b c d e f g i=some r:=⟨k,rfl,h⟩
end
/-! ## Guards whose ways leave the world alone -/
section
variable {P:Program} {N:Nat} {Q0:Exit -> Act -> World -> Prop} {K K':KL} {w:World} {fs:List Frame} {ops:Array Oper} {l:List Oper} {Q:Exit -> Act -> World -> Prop} {Qa:Act -> Prop}
theorem Gm(e:K'.map (fun p=>kl K p.1)=K'.map (fun p=>some p.2):=by rfl):TL P N ops (IQ P Q0 (.lp (fun a u=>Kn N K' a∧u=w)::fs)) [] K w:=TL.nil fun _ h=>⟨h.sub e,rfl⟩
theorem Zx(k:Nat)(is:List Nat)(j:Nat)(c:Bool){K1:KL}(hk:Tc K is [(j,.bool c)]=some K1)(E:TL P N ops (IQ P Q0 (.lp (fun I w'=>Kn N K1 I∧w'=w)::fs)) (l.take k) K w)(F:TL P N ops (IQ P Q0 fs) (l.drop k) K1 w):
 TL P N ops (IQ P Q0 fs) l K w:=TL.cutD k K1 (fun w'=>w'=w) E fun w' e=>e▸F
def Nh(N:Nat)(ops:Array Oper):List Oper->KL->Option KL
 |[],K=>some K
 |o::rest,K=>match Iy N ops K o with
  | .yes=>match yq K o.op with
   |some v=>Nh N ops rest (DE K o.dst v)
   |none=>none
  | .skip=>Nh N ops rest (DE K o.dst undef)
  | .no=>none
theorem Nh.ok:∀{l:List Oper} {K K':KL},Nh N ops l K=some K'->TL P N ops Q [] K' w->TL P N ops Q l K w
 |[],K,K',h,q=>by obtain rfl:=Ai h;exact q
 |o::rest,K,K',h,q=>by
  simp only [Nh]at h
  split at h
  ·rename_i E
   split at h
   ·rename_i v F;exact Yl E (LV F) (Nh.ok h q)
   ·cases h
  ·rename_i E;exact Sk E (Nh.ok h q)
  ·cases h
theorem Nh.okq:∀{l:List Oper} {K K':KL},Nh N ops l K=some K'->QL P N ops w Qa [] K'->QL P N ops w Qa l K
 |[],K,K',h,q=>by obtain rfl:=Ai h;exact q
 |o::rest,K,K',h,q=>by
  simp only [Nh]at h
  split at h
  ·rename_i E
   split at h
   ·rename_i v F;exact Qy E (LV F) (Nh.okq h q)
   ·cases h
  ·rename_i E;exact Qs E (Nh.okq h q)
  ·cases h
theorem fZ{N:Nat}{Kt K1:KL}{t j:Nat}{c x u v:Bool}(e:c=x)(t1:kl Kt t=some (.bool x))(E:kl Kt j=some (.bool u))(F:u=v)(e1:K1.map (fun p=>kl ((t,.bool c)::(j,.bool v)::Kt) p.1)=K1.map (fun p=>some p.2))(a:Act)(h:Kn N Kt a):Kn N K1 a:=by
 subst F
 refine Kn.sub (Kn.know (u:=.bool x) (h.know E rfl) ?_ (by rw [e])) e1
 cases hb:Nat.beq j t with
 |false=>simpa [kl,hb] using t1
 |true=>obtain rfl:=Bh hb;rw [E]at t1;simpa [kl] using t1
section
variable {c b:Bool} {K1 Kt Kf:KL}
theorem XJ(k:Nat)(is:List Nat)(j t:Nat)(F:TL P N ops (IQ P Q0 fs) (l.drop k) K1 w)(E:kl K t=some (.bool c):=by rfl)
 (h1:Nh N ops (l.take k) ((t,.bool true)::K)=some Kt:=by rfl) (b1:kl Kt j=some (.bool b):=by rfl) (t1:kl Kt t=some (.bool true):=by rfl)
 (h2:Nh N ops (l.take k) ((t,.bool false)::K)=some Kf:=by rfl) (b2:kl Kf j=some (.bool false):=by rfl) (t2:kl Kf t=some (.bool false):=by rfl) (hk:Tc K is [(j,.bool (c&&b))]=some K1:=by rfl)
 (e1:K1.map (fun p=>kl ((t,.bool c)::(j,.bool (c&&b))::Kt) p.1)=K1.map (fun p=>some p.2):=by rfl) (e2:K1.map (fun p=>kl ((t,.bool c)::(j,.bool (c&&b))::Kf) p.1)=K1.map (fun p=>some p.2):=by rfl):TL P N ops (IQ P Q0 fs) l K w:=
 Zx k is j (c&&b) hk (Kd t E (fun e=>Nh.ok h1 (TL.nil fun a h=>⟨fZ e t1 b1 (yZ e) e1 a h,rfl⟩)) fun e=>Nh.ok h2 (TL.nil fun a h=>⟨fZ e t2 b2 (zN e) e2 a h,rfl⟩)) F
theorem vH(k:Nat)(is:List Nat)(j t:Nat)(F:TL P N ops (IQ P Q0 fs) (l.drop k) K1 w)(E:kl K t=some (.bool c):=by rfl)
 (h1:Nh N ops (l.take k) ((t,.bool true)::K)=some Kt:=by rfl) (b1:kl Kt j=some (.bool true):=by rfl) (t1:kl Kt t=some (.bool true):=by rfl)
 (h2:Nh N ops (l.take k) ((t,.bool false)::K)=some Kf:=by rfl) (b2:kl Kf j=some (.bool b):=by rfl) (t2:kl Kf t=some (.bool false):=by rfl) (hk:Tc K is [(j,.bool (c||b))]=some K1:=by rfl)
 (e1:K1.map (fun p=>kl ((t,.bool c)::(j,.bool (c||b))::Kt) p.1)=K1.map (fun p=>some p.2):=by rfl) (e2:K1.map (fun p=>kl ((t,.bool c)::(j,.bool (c||b))::Kf) p.1)=K1.map (fun p=>some p.2):=by rfl):TL P N ops (IQ P Q0 fs) l K w:=
 Zx k is j (c||b) hk (Kd t E (fun e=>Nh.ok h1 (TL.nil fun a h=>⟨fZ e t1 b1 (zB e) e1 a h,rfl⟩)) fun e=>Nh.ok h2 (TL.nil fun a h=>⟨fZ e t2 b2 (yX e) e2 a h,rfl⟩)) F
theorem QU(k:Nat)(is:List Nat)(j t:Nat)(b:Bool){c:Bool}{K1 E Kf:KL}(W:Tc ((t,.bool true)::K) (t::is) [(j,.bool b)]=some E)(U:TL P N ops (IQ P Q0 (.lp (fun O w'=>Kn N E O∧w'=w)::fs)) (l.take k) ((t,.bool true)::K) w)(I:TL P N ops (IQ P Q0 fs) (l.drop k) K1 w)(J:kl K t=some (.bool c):=by rfl)
 (h2:Nh N ops (l.take k) ((t,.bool false)::K)=some Kf:=by rfl) (b2:kl Kf j=some (.bool false):=by rfl) (t2:kl Kf t=some (.bool false):=by rfl) (hk:Tc K is [(j,.bool (c&&b))]=some K1:=by rfl) (b1:kl E j=some (.bool b):=by rfl) (t1:kl E t=some (.bool true):=by rfl)
 (e1:K1.map (fun p=>kl ((t,.bool c)::(j,.bool (c&&b))::E) p.1)=K1.map (fun p=>some p.2):=by rfl) (e2:K1.map (fun p=>kl ((t,.bool c)::(j,.bool (c&&b))::Kf) p.1)=K1.map (fun p=>some p.2):=by rfl):TL P N ops (IQ P Q0 fs) l K w:=
 Kd t J (fun e=>TL.cutD k E (fun w'=>w'=w) U fun w' q=>q▸fun a F=>I a (fZ e t1 b1 (yZ e) e1 a F)) fun e=>TL.cutD k Kf (fun w'=>w'=w) (Nh.ok h2 (TL.nil fun a h=>⟨h,rfl⟩)) fun w' q=>q▸fun a F=>I a (fZ e t2 b2 (zN e) e2 a F)
theorem Te(k:Nat)(is:List Nat)(j t:Nat)(b:Bool){c:Bool}{K1 E Kf:KL}(W:Tc ((t,.bool false)::K) (t::is) [(j,.bool b)]=some E)(U:TL P N ops (IQ P Q0 (.lp (fun O w'=>Kn N E O∧w'=w)::fs)) (l.take k) ((t,.bool false)::K) w)(I:TL P N ops (IQ P Q0 fs) (l.drop k) K1 w)(J:kl K t=some (.bool c):=by rfl)
 (h2:Nh N ops (l.take k) ((t,.bool true)::K)=some Kf:=by rfl) (b2:kl Kf j=some (.bool true):=by rfl) (t2:kl Kf t=some (.bool true):=by rfl) (hk:Tc K is [(j,.bool (c||b))]=some K1:=by rfl) (b1:kl E j=some (.bool b):=by rfl) (t1:kl E t=some (.bool false):=by rfl)
 (e1:K1.map (fun p=>kl ((t,.bool c)::(j,.bool (c||b))::E) p.1)=K1.map (fun p=>some p.2):=by rfl) (e2:K1.map (fun p=>kl ((t,.bool c)::(j,.bool (c||b))::Kf) p.1)=K1.map (fun p=>some p.2):=by rfl):TL P N ops (IQ P Q0 fs) l K w:=
 Kd t J (fun e=>TL.cutD k Kf (fun w'=>w'=w) (Nh.ok h2 (TL.nil fun a h=>⟨h,rfl⟩)) fun w' q=>q▸fun a F=>I a (fZ e t2 b2 (zB e) e2 a F)) fun e=>TL.cutD k E (fun w'=>w'=w) U fun w' q=>q▸fun a F=>I a (fZ e t1 b1 (yX e) e1 a F)
theorem dW(k:Nat)(is:List Nat)(j t:Nat)(b:Bool){c:Bool}{K1 E Kf:KL}(W:Tc ((t,.bool true)::K) (t::is) [(j,.bool b)]=some E)(U:QL P N ops w (fun O=>Kn N E O) (l.take k) ((t,.bool true)::K))(I:QL P N ops w Qa (l.drop k) K1)(J:kl K t=some (.bool c):=by rfl)
 (h2:Nh N ops (l.take k) ((t,.bool false)::K)=some Kf:=by rfl) (b2:kl Kf j=some (.bool false):=by rfl) (t2:kl Kf t=some (.bool false):=by rfl) (hk:Tc K is [(j,.bool (c&&b))]=some K1:=by rfl) (b1:kl E j=some (.bool b):=by rfl) (t1:kl E t=some (.bool true):=by rfl)
 (e1:K1.map (fun p=>kl ((t,.bool c)::(j,.bool (c&&b))::E) p.1)=K1.map (fun p=>some p.2):=by rfl) (e2:K1.map (fun p=>kl ((t,.bool c)::(j,.bool (c&&b))::Kf) p.1)=K1.map (fun p=>some p.2):=by rfl):QL P N ops w Qa l K:=
 Kdq t J (fun e=>QL.cut k E U fun a F=>I a (fZ e t1 b1 (yZ e) e1 a F)) fun e=>QL.cut k Kf (Nh.okq h2 (QL.nil fun a h=>h)) fun a F=>I a (fZ e t2 b2 (zN e) e2 a F)
end
theorem KC{β:Type}{A:Option Bool}{g:Bool->Option β}{r:β}{c:Bool}{K1 F:Bool->KL}{Kf:KL}(k:Nat)(is:List Nat)(j t:Nat)(Z:Option.bind (bif c then A else some false) g=some r)(Y:∀b,A=some b->TL P N ops (IQ P Q0 (.lp (fun W w'=>Kn N (F b) W∧Bl w w')::fs)) (l.take k) ((t,.bool true)::K) w)(J:∀b,g b=some r->∀w',Bl w w'->TL P N ops (IQ P Q0 fs) (l.drop k) (K1 b) w')(U:kl K t=some (.bool c):=by rfl)
 (hx:∀b,Tc ((t,.bool true)::K) (t::is) [(j,.bool b)]=some (F b):=by intro _;rfl) (hk:∀b,Tc K is [(j,.bool b)]=some (K1 b):=by intro _;rfl) (h2:Nh N ops (l.take k) ((t,.bool false)::K)=some Kf:=by rfl)
 (t1:∀b,kl (F b) t=some (.bool true):=by intro _;rfl) (t2:kl Kf t=some (.bool false):=by rfl)
 (e1:∀b,(K1 b).map (fun p=>kl ((t,.bool c)::F b) p.1)=(K1 b).map (fun p=>some p.2):=by intro _;rfl) (e2:(K1 false).map (fun p=>kl ((t,.bool c)::Kf) p.1)=(K1 false).map (fun p=>some p.2):=by rfl):TL P N ops (IQ P Q0 fs) l K w:=by
 obtain⟨b,E,O⟩:=AY Z
 refine Kd t U (fun e=>?_) fun e=>?_
 ·replace E:=Pi e E;exact TL.cutD k (F b) (fun w'=>Bl w w') (Y b E) fun w' q a I=>J b O w' q a ((I.know (t1 b) (by rw [e])).sub (e1 b))
 ·replace E:=PV e E;obtain rfl:=VA E;exact TL.cutD k Kf (fun w'=>Bl w w') (Nh.ok h2 (TL.nil fun a h=>⟨h,Bl.refl _⟩)) fun w' q a I=>J _ O w' q a ((I.know t2 (by rw [e])).sub e2)
theorem PE{β:Type}{A:Option Bool}{g:Bool->Option β}{r:β}{c:Bool}{K1 F:Bool->KL}{Kf:KL}(k:Nat)(is:List Nat)(j t:Nat)(Z:Option.bind (bif c then some true else A) g=some r)(Y:∀b,A=some b->TL P N ops (IQ P Q0 (.lp (fun W w'=>Kn N (F b) W∧Bl w w')::fs)) (l.take k) ((t,.bool false)::K) w)(J:∀b,g b=some r->∀w',Bl w w'->TL P N ops (IQ P Q0 fs) (l.drop k) (K1 b) w')(U:kl K t=some (.bool c):=by rfl)
 (hx:∀b,Tc ((t,.bool false)::K) (t::is) [(j,.bool b)]=some (F b):=by intro _;rfl) (hk:∀b,Tc K is [(j,.bool b)]=some (K1 b):=by intro _;rfl) (h2:Nh N ops (l.take k) ((t,.bool true)::K)=some Kf:=by rfl)
 (t1:∀b,kl (F b) t=some (.bool false):=by intro _;rfl) (t2:kl Kf t=some (.bool true):=by rfl)
 (e1:∀b,(K1 b).map (fun p=>kl ((t,.bool c)::F b) p.1)=(K1 b).map (fun p=>some p.2):=by intro _;rfl) (e2:(K1 true).map (fun p=>kl ((t,.bool c)::Kf) p.1)=(K1 true).map (fun p=>some p.2):=by rfl):TL P N ops (IQ P Q0 fs) l K w:=by
 obtain⟨b,E,O⟩:=AY Z
 refine Kd t U (fun e=>?_) fun e=>?_
 ·replace E:=Pi e E;obtain rfl:=VA E;exact TL.cutD k Kf (fun w'=>Bl w w') (Nh.ok h2 (TL.nil fun a h=>⟨h,Bl.refl _⟩)) fun w' q a I=>J _ O w' q a ((I.know t2 (by rw [e])).sub e2)
 ·replace E:=PV e E;exact TL.cutD k (F b) (fun w'=>Bl w w') (Y b E) fun w' q a I=>J b O w' q a ((I.know (t1 b) (by rw [e])).sub (e1 b))
theorem Jt{β:Type}{A:Option Bool}{g:Bool->Option β}{r:β}{c:Bool}{K1 F:Bool->KL}{Kf:KL}(k:Nat)(is:List Nat)(j t:Nat)(Z:Option.bind (bif c then A else some false) g=some r)(Y:∀b,A=some b->TL P N ops (IQ P Q0 (.lp (fun W w'=>Kn N (F b) W∧w'=w)::fs)) (l.take k) ((t,.bool true)::K) w)(J:∀b,g b=some r->TL P N ops (IQ P Q0 fs) (l.drop k) (K1 b) w)(U:kl K t=some (.bool c):=by rfl)
 (hx:∀b,Tc ((t,.bool true)::K) (t::is) [(j,.bool b)]=some (F b):=by intro _;rfl) (hk:∀b,Tc K is [(j,.bool b)]=some (K1 b):=by intro _;rfl) (h2:Nh N ops (l.take k) ((t,.bool false)::K)=some Kf:=by rfl)
 (t1:∀b,kl (F b) t=some (.bool true):=by intro _;rfl) (t2:kl Kf t=some (.bool false):=by rfl)
 (e1:∀b,(K1 b).map (fun p=>kl ((t,.bool c)::F b) p.1)=(K1 b).map (fun p=>some p.2):=by intro _;rfl) (e2:(K1 false).map (fun p=>kl ((t,.bool c)::Kf) p.1)=(K1 false).map (fun p=>some p.2):=by rfl):TL P N ops (IQ P Q0 fs) l K w:=by
 obtain⟨b,E,O⟩:=AY Z
 refine Kd t U (fun e=>?_) fun e=>?_
 ·replace E:=Pi e E;exact TL.cutD k (F b) (fun w'=>w'=w) (Y b E) fun w' q=>q▸fun a I=>J b O a ((I.know (t1 b) (by rw [e])).sub (e1 b))
 ·replace E:=PV e E;obtain rfl:=VA E;exact TL.cutD k Kf (fun w'=>w'=w) (Nh.ok h2 (TL.nil fun a h=>⟨h,rfl⟩)) fun w' q=>q▸fun a I=>J _ O a ((I.know t2 (by rw [e])).sub e2)
theorem SD{β:Type}{A:Option Bool}{g:Bool->Option β}{r:β}{c:Bool}{K1 F:Bool->KL}{Kf:KL}(k:Nat)(is:List Nat)(j t:Nat)(Z:Option.bind (bif c then some true else A) g=some r)(Y:∀b,A=some b->TL P N ops (IQ P Q0 (.lp (fun W w'=>Kn N (F b) W∧w'=w)::fs)) (l.take k) ((t,.bool false)::K) w)(J:∀b,g b=some r->TL P N ops (IQ P Q0 fs) (l.drop k) (K1 b) w)(U:kl K t=some (.bool c):=by rfl)
 (hx:∀b,Tc ((t,.bool false)::K) (t::is) [(j,.bool b)]=some (F b):=by intro _;rfl) (hk:∀b,Tc K is [(j,.bool b)]=some (K1 b):=by intro _;rfl) (h2:Nh N ops (l.take k) ((t,.bool true)::K)=some Kf:=by rfl)
 (t1:∀b,kl (F b) t=some (.bool false):=by intro _;rfl) (t2:kl Kf t=some (.bool true):=by rfl)
 (e1:∀b,(K1 b).map (fun p=>kl ((t,.bool c)::F b) p.1)=(K1 b).map (fun p=>some p.2):=by intro _;rfl) (e2:(K1 true).map (fun p=>kl ((t,.bool c)::Kf) p.1)=(K1 true).map (fun p=>some p.2):=by rfl):TL P N ops (IQ P Q0 fs) l K w:=by
 obtain⟨b,E,O⟩:=AY Z
 refine Kd t U (fun e=>?_) fun e=>?_
 ·replace E:=Pi e E;obtain rfl:=VA E;exact TL.cutD k Kf (fun w'=>w'=w) (Nh.ok h2 (TL.nil fun a h=>⟨h,rfl⟩)) fun w' q=>q▸fun a I=>J _ O a ((I.know t2 (by rw [e])).sub e2)
 ·replace E:=PV e E;exact TL.cutD k (F b) (fun w'=>w'=w) (Y b E) fun w' q=>q▸fun a I=>J b O a ((I.know (t1 b) (by rw [e])).sub (e1 b))
theorem Ky{β:Type}{A:Option Bool}{g:Bool->Option β}{r:β}{c:Bool}{K1 F:Bool->KL}{Kf:KL}(k:Nat)(is:List Nat)(j t:Nat)(Z:Option.bind (bif c then A else some false) g=some r)(Y:∀b,A=some b->QL P N ops w (fun W=>Kn N (F b) W) (l.take k) ((t,.bool true)::K))(J:∀b,g b=some r->QL P N ops w Qa (l.drop k) (K1 b))(U:kl K t=some (.bool c):=by rfl)
 (hx:∀b,Tc ((t,.bool true)::K) (t::is) [(j,.bool b)]=some (F b):=by intro _;rfl) (hk:∀b,Tc K is [(j,.bool b)]=some (K1 b):=by intro _;rfl) (h2:Nh N ops (l.take k) ((t,.bool false)::K)=some Kf:=by rfl)
 (t1:∀b,kl (F b) t=some (.bool true):=by intro _;rfl) (t2:kl Kf t=some (.bool false):=by rfl)
 (e1:∀b,(K1 b).map (fun p=>kl ((t,.bool c)::F b) p.1)=(K1 b).map (fun p=>some p.2):=by intro _;rfl) (e2:(K1 false).map (fun p=>kl ((t,.bool c)::Kf) p.1)=(K1 false).map (fun p=>some p.2):=by rfl):QL P N ops w Qa l K:=by
 obtain⟨b,E,O⟩:=AY Z
 refine Kdq t U (fun e=>?_) fun e=>?_
 ·replace E:=Pi e E;exact QL.cut k (F b) (Y b E) fun a I=>J b O a ((I.know (t1 b) (by rw [e])).sub (e1 b))
 ·replace E:=PV e E;obtain rfl:=VA E;exact QL.cut k Kf (Nh.okq h2 (QL.nil fun a h=>h)) fun a I=>J _ O a ((I.know t2 (by rw [e])).sub e2)
theorem MK{β:Type}{A:Option Bool}{g:Bool->Option β}{r:β}{c:Bool}{K1 F:Bool->KL}{Kf:KL}(k:Nat)(is:List Nat)(j t:Nat)(Z:Option.bind (bif c then some true else A) g=some r)(Y:∀b,A=some b->QL P N ops w (fun W=>Kn N (F b) W) (l.take k) ((t,.bool false)::K))(J:∀b,g b=some r->QL P N ops w Qa (l.drop k) (K1 b))(U:kl K t=some (.bool c):=by rfl)
 (hx:∀b,Tc ((t,.bool false)::K) (t::is) [(j,.bool b)]=some (F b):=by intro _;rfl) (hk:∀b,Tc K is [(j,.bool b)]=some (K1 b):=by intro _;rfl) (h2:Nh N ops (l.take k) ((t,.bool true)::K)=some Kf:=by rfl)
 (t1:∀b,kl (F b) t=some (.bool false):=by intro _;rfl) (t2:kl Kf t=some (.bool true):=by rfl)
 (e1:∀b,(K1 b).map (fun p=>kl ((t,.bool c)::F b) p.1)=(K1 b).map (fun p=>some p.2):=by intro _;rfl) (e2:(K1 true).map (fun p=>kl ((t,.bool c)::Kf) p.1)=(K1 true).map (fun p=>some p.2):=by rfl):QL P N ops w Qa l K:=by
 obtain⟨b,E,O⟩:=AY Z
 refine Kdq t U (fun e=>?_) fun e=>?_
 ·replace E:=Pi e E;obtain rfl:=VA E;exact QL.cut k Kf (Nh.okq h2 (QL.nil fun a h=>h)) fun a I=>J _ O a ((I.know t2 (by rw [e])).sub e2)
 ·replace E:=PV e E;exact QL.cut k (F b) (Y b E) fun a I=>J b O a ((I.know (t1 b) (by rw [e])).sub (e1 b))
end
/-! ## Pointers against nil -/
theorem Wa{P:Program}{t e:TypeId}{a:Option Addr}{w:World}(E:P.underlying t=some (.pointer e)):(Op.equal t (.pointer a) (.pointer none)).run P w= .ok a.isNone w:=by
 simp only [Op.equal,Op.maxDepth]
 rw [show(10000:Nat)=9999+1 from rfl,Op.equalIn]
 cases a<;>simp [CO E]
theorem Xl{P:Program}{N:Nat}{K:KL}{o:Oper}{w:World}{t x y u e}{a:Option Addr}(ho:o.op= .binOp .neq t x y u)(I:P.underlying t=some (.pointer e))(J:ES K x=some (.pointer a))(F:ES K y=some (.pointer none)):HX P N K o w (.bool (!a.isNone)):=by
 intro b E w' _
 simp [execOp,ho,E.ev J,E.ev F,eqGuard,binOp,Wa I]
theorem Qd{P:Program}{N:Nat}{K:KL}{w:World}{fn:Func}{p E b T:Nat}{us:List Value}{R:Ending->World->Prop}(O:Bu w b us T)(F:Ei P E=some true)(U:Cp P E=some us.length)(I:R (.returned (.agg us.toArray)) w)
 (J:fn.results=List.toArray [.cell p E]:=by rfl) (hk:kl K p=some (.pointer (some ⟨b,0,none⟩)):=by rfl):NX N (bodyPost P fn R) .ret K w:=
 NX.end (vs:=[.agg us.toArray]) J ⟨⟨b,hk,DI F U O⟩,trivial⟩ I
end Go.Eng
namespace Go.Eng
open Go Go.RowKit
/-! ## Code in a round's frame, and behind a range over a function -/
def Wr:Option Nat->Fence
 |none=>Fence.wide
 |some l=>Fence.wide.inRound l
theorem WY(r:Option Nat)(f:FuncId):(Wr r).fn f:=by cases r<;>exact trivial
theorem Zt(r:Option Nat)(n:Nat):(Wr r).depth.isSome=true->1<=n:=by cases r<;>intro h<;>cases h
theorem UP{P:Program}{r:Option Nat}{n:Nat}{f:FuncId}{args:Array Value}{w:World}{R:Ending->World->Prop}(h:Calls P f args w R):CallsIn (Wr r) n P f args w R:=by
 have E:CallsIn Fence.wide n P f args w R:=callsIn_wide.2 h
 cases r with
 |none=>exact E
 |some l=>exact CallsIn.inRound l E
theorem fN{P:Program}{r:Option Nat}{n:Nat}{row:String}{args:Array Value}{w:World}{R:Value->World->Prop}(h:Rows P row args w R):RowsIn (Wr r) n P row args w R:=by
 have E:RowsIn Fence.wide n P row args w R:=fun c cs _=>by
  obtain⟨v,w',I,F⟩:=h c cs
  exact⟨v,w',I,stepsIn_wide.2 F⟩
 cases r with
 |none=>exact E
 |some l=>exact E
def DQ(Q:Exit->Act->World->Prop)(ds:List Deferred):Exit->Act->World->Prop:=fun e a w=>a.defers=[]∧e≠ .outgrown∧Q e { a with defers:=ds } w
def jB(o:Oper):Bool:=match o.op with
 | .defer _=>false
 |_=>true
theorem JC(a:Act)(d:Option Tmp)(v:Value):(a.put d v).defers=a.defers:=by cases d<;>rfl
theorem MM(a:Act)(ds:List Deferred)(d:Option Tmp)(v:Value):({ a with defers:=ds }:Act).put d v={ a.put d v with defers:=ds }:=by cases d<;>rfl
def ZR(Q1 Q:Exit->Act->World->Prop)(ds:List Deferred):Prop:=∀e a w,Q1 e a w->a.defers=[]∧e≠ .outgrown∧Q e { a with defers:=ds } w
theorem oN{Q:Exit->Act->World->Prop}{ds:List Deferred}:ZR (DQ Q ds) Q ds:=fun _ _ _ h=>h
theorem AcI{Q:Exit->Act->World->Prop}{ds:List Deferred}:ZR (noPan (DQ Q ds)) Q ds:=fun e _ _ h=>by cases e<;>first|exact h|exact h.elim
section
variable {P:Program} {Q Q1:Exit -> Act -> World -> Prop} {ds:List Deferred} {r:Option Nat} {n:Nat}
theorem ZR.out(q:ZR Q1 Q ds):¬LetsOut Q1:=fun⟨_,_,h⟩=>(q _ _ _ h).2.1 rfl
theorem Xi(q:ZR Q1 Q ds){o:Oper}{a:Act}{w:World}{K:Act->World->Prop}(E:a.defers≠[])(I:∀O w',O.defers≠[]->K O w'->False)(h:o.wp P a w K Q1):False:=by
 unfold Oper.wp at h
 generalize (execOp a.eval o).run P w=x at h
 cases x with
 |ok v w'=>
  cases v with
  |value v=>exact I _ _ (by rw [JC];exact E) h
  |skip=>exact I _ _ (by rw [JC];exact E) h
  |defer d=>exact I _ _ (by rw [JC];exact List.cons_ne_nil _ _) h
  |enter f args=>
   obtain⟨e,J,_,F,_⟩:=h []
   cases e with
   |returned v=>exact I _ _ (by rw [JC];exact E) F
   |panicked c=>exact E (q _ _ _ F).1
   |outgrown=>exact q.out F
  |row row args=>
   obtain⟨v,J,F,_⟩:=h default []
   exact I _ _ (by rw [JC];exact E) F
  |_=>exact h
 |halt e w'=>
  cases e with
  |panic v=>exact E (q _ _ _ h).1
  |_=>exact h
theorem mS(q:ZR Q1 Q ds){o:Oper}{a:Act}{w:World}{K K':Act->World->Prop}(ho:jB o=true)(J:a.defers=[])(U:∀E w',E.defers≠[]->K E w'->False)
 (O:∀E w',E.defers=[]->K E w'->K' { E with defers:=ds } w') (h:o.wp P a w K Q1):o.wpIn (Wr r) n P { a with defers:=ds } w K' Q:=by
 refine⟨fun f _=>WY r f,?_⟩
 have W:o.semAt (Wr r).round ({ a with defers:=ds }:Act).eval=execOp a.eval o:=by
  rw [Oper.semAt_eq _ _ _ (fun c hc=>by unfold jB at ho;rw [hc]at ho;cases ho)];rfl
 rw [W]
 unfold Oper.wp at h
 generalize (execOp a.eval o).run P w=x at h
 cases x with
 |ok v w'=>
  cases v with
  |value v=>show K' (({ a with defers:=ds }:Act).put o.dst v) w';rw [MM];exact O _ _ (by rw [JC];exact J) h
  |skip=>show K' (({ a with defers:=ds }:Act).put o.dst undef) w';rw [MM];exact O _ _ (by rw [JC];exact J) h
  |defer d=>exact absurd h fun h=>U _ _ (by rw [JC];exact List.cons_ne_nil _ _) h
  |enter f args=>
   refine⟨Zt r n,(UP h).mono fun e I F=>?_⟩
   cases e with
   |returned v=>show K' (({ a with defers:=ds }:Act).put o.dst v) I;rw [MM];exact O _ _ (by rw [JC];exact J) F
   |panicked c=>exact(q _ _ _ F).2.2
   |outgrown=>exact(q.out F).elim
  |row row args=>
   refine⟨Zt r n,(fN h).mono fun v I F=>?_⟩
   rw [MM];exact O _ _ (by rw [JC];exact J) F
  |_=>exact h.elim
 |halt e w'=>
  cases e with
  |panic v=>exact(q _ _ _ h).2.2
  |_=>exact h
variable {ops:Array Oper}
theorem RR(q:ZR Q1 Q ds):∀{l:List Oper} {a:Act} {w:World},a.defers≠[]->wpList P ops Q1 l a w->False
 |[],a,w,ha,h=>ha (q _ _ _ h).1
 |o::l,a,w,ha,h=>by
  unfold wpList at h
  split at h
  ·rcases h with h|⟨_,h⟩
   ·exact Xi q ha (fun I w' E F=>RR q E F) h
   ·exact q.out h
  ·exact RR q (by rw [JC];exact ha) h
theorem Qn(q:ZR Q1 Q ds):∀{l:List Oper} {a:Act} {w:World},l.all jB=true->a.defers=[]->wpList P ops Q1 l a w->wpListIn (Wr r) n P ops Q l { a with defers:=ds } w
 |[],a,w,_,ha,h=>(q _ _ _ h).2.2
 |o::l,a,w,hn,ha,h=>by
  rw [Fw,AG]at hn
  unfold wpList at h
  unfold wpListIn
  split at h
  ·rename_i F
   rw [BE F]
   rcases h with h|⟨_,h⟩
   ·exact mS q hn.1 ha (fun J w' E I=>RR q E I) (fun J w' E I=>Qn q hn.2 E I) h
   ·exact(q.out h).elim
  ·rename_i F
   rw [BU F]
   refine⟨fun f _=>WY r f,?_⟩
   rw [MM];exact Qn q hn.2 (by rw [JC];exact ha) h
theorem iN(q:ZR Q1 Q ds){i:Nat}{a:Act}{w:World}{K:Act->World->Prop}(F:a.defers≠[])(E:∀I w',I.defers≠[]->K I w'->False)(h:wpOp P ops Q1 i K a w):False:=by
 unfold wpOp at h
 split at h
 ·exact E _ _ F h
 ·split at h
  ·rcases h with h|⟨_,h⟩
   ·exact Xi q F E h
   ·exact q.out h
  ·exact E _ _ (by rw [JC];exact F) h
theorem VU(q:ZR Q1 Q ds):∀{f:Nat} {listed:Array Bool} {a:Act} {w:World},a.defers≠[]->wpAny P .any ops Q1 f listed a w->False
 |0,listed,a,w,ha,h=>ha (q _ _ _ h.2).1
 |f+1,listed,a,w,ha,h=>by
  obtain⟨J,I⟩:=h
  cases hr:Region.ready .any ops listed with
  |nil=>exact ha (q _ _ _ (J hr)).1
  |cons i l=>exact iN q ha (fun O w' E F=>VU q E F) (I i (by rw [hr];exact Co))
theorem wA(q:ZR Q1 Q ds){i:Nat}{a:Act}{w:World}{K K':Act->World->Prop}(Z:ops.toList.all jB=true)(J:a.defers=[])(U:∀E w',E.defers≠[]->K E w'->False)
 (O:∀E w',E.defers=[]->K E w'->K' { E with defers:=ds } w') (h:wpOp P ops Q1 i K a w):wpOpIn (Wr r) n P ops Q i K' { a with defers:=ds } w:=by
 unfold wpOp at h
 unfold wpOpIn
 cases ho:ops[i]? with
 |none=>rw [ho]at h;exact O _ _ J h
 |some o=>
  rw [ho]at h
  have h:if Region.wanted o (yielded ops a.tmps)then o.wp P a w K Q1∨(o.asks P a w∧LetsOut Q1)else K (a.put o.dst undef) w:=h
  show if Region.wanted o (yielded ops a.tmps)then _ else _
  have hm:o∈ops.toList:=by
   obtain⟨Y,W⟩:=Ct.1 ho
   rw [←W];exact Array.getElem_mem_toList Y
  have I:=CX.1 Z o hm
  split at h
  ·rename_i F
   rw [BE F]
   rcases h with h|⟨_,h⟩
   ·exact mS q I J U O h
   ·exact(q.out h).elim
  ·rename_i F
   rw [BU F]
   refine⟨fun f _=>WY r f,?_⟩
   rw [MM];exact O _ _ (by rw [JC];exact J) h
theorem eI(q:ZR Q1 Q ds)(I:ops.toList.all jB=true):∀{f:Nat} {listed:Array Bool} {a:Act} {w:World},a.defers=[]->wpAny P .any ops Q1 f listed a w->wpAnyIn (Wr r) n P .any ops Q f listed { a with defers:=ds } w
 |0,listed,a,w,ha,h=>⟨h.1,(q _ _ _ h.2).2.2⟩
 |f+1,listed,a,w,ha,h=>⟨fun e=>(q _ _ _ (h.1 e)).2.2,fun i hi=>wA q I ha (fun J w' E F=>VU q E F) (fun J w' E F=>eI q I E F) (h.2 i hi)⟩
end
def WX(P:Program)(N:Nat)(r:Option Nat)(n:Nat)(ds:List Deferred)(c:Code)(Q:Exit->Act->World->Prop)(K:KL)(w:World):Prop:=
 ∀a,Kn N K a->c.wpIn (Wr r) n P Q { a with defers:=ds } w
def NY(N:Nat)(ds:List Deferred)(Q:Exit->Act->World->Prop)(e:Exit)(K:KL)(w:World):Prop:=∀a,Kn N K a->Q e { a with defers:=ds } w
section
variable {P:Program} {N:Nat} {r:Option Nat} {n:Nat} {ds:List Deferred} {Q:Exit -> Act -> World -> Prop} {K:KL} {w:World}
theorem WX.seq{x y:Code}(h:WX P N r n ds x (Exit.then (fun F w'=>y.wpIn (Wr r) n P Q F w') Q) K w):WX P N r n ds (.seq x y) Q K w:=fun a E=>wpIn_seq (h a E)
theorem WX.region{id:Nat}{l:List Oper}(F:l.all jB=true)(h:TL P N l.toArray (DQ Q ds) l K w):WX P N r n ds (.region id l.toArray false) Q K w:=fun a E=>wpIn_region_lit (Qn oN F E.df (h a E))
theorem WX.block{id:Nat}{c:Code}(h:WX P N r n ds c (Exit.inBlock id Q) K w):WX P N r n ds (.block id c) Q K w:=fun a E=>wpIn_block (h a E)
theorem WX.skip(h:NY N ds Q .normal K w):WX P N r n ds .skip Q K w:=fun a E=>wpIn_skip (h a E)
theorem WX.exit{id:Nat}(h:NY N ds Q (.exit id) K w):WX P N r n ds (.exit id) Q K w:=fun a E=>wpIn_exit (h a E)
theorem WX.ret(h:NY N ds Q .ret K w):WX P N r n ds .ret Q K w:=fun a E=>wpIn_ret (h a E)
theorem WX.cond{c:Operand}{x y:Code}{t:Bool}(hc:ES K c=some (.bool t))(I:t=true->WX P N r n ds x Q K w)(F:t=false->WX P N r n ds y Q K w):WX P N r n ds (.cond c x y) Q K w:=
 fun a E=>wpIn_cond_split (a:={ a with defers:=ds }) (E.ev hc) (fun h=>I h a E) (fun h=>F h a E)
theorem WX.heldG{p:Nat->Prop}{id:Nat}{l:List Oper}(m:Nat)(hm:P.follows .mixedOrders=true)(O:l.all jB=true)
 (h:∀w',Bl w w'->Kv P N l.toArray m (noPan (DQ Q ds)) p w' l.length (Array.replicate l.length false) K w'):WX P N r n ds (.region id l.toArray true) Q K w:=by
 intro a F
 have E:HeadInv .any l.toArray m (Array.replicate l.length false):=
  ⟨by simp,fun j oj _ hl=>(by rw [getD_replicate_false]at hl;cases hl),fun t _ J=>getD_in (by simpa using J) (getD_replicate_false _ _)⟩
 have I:=FP.any _ _ _ _ (h w.drew (Bl.drew w) (by simpa using E) (Cb.refl p _) a F)
 refine wpIn_region_any hm ?_
 exact eI AcI (by simpa using O) F.df (by simpa using I)
end
theorem NXd{N:Nat}{ds:List Deferred}{Q:Exit->Act->World->Prop}{e:Exit}{K:KL}{w:World}(h:NY N ds Q e K w)(F:e≠ .outgrown:=by intro h;cases h):NX N (DQ Q ds) e K w:=fun a E=>⟨E.df,F,h a E⟩
theorem UB{P:Program}{w:World}{b E T:Nat}{u:Value}(F:Ei P E=some false)(I:Bu w b [u] T):(loadVar E ⟨b,0,none⟩).run P w= .ok u w:=by
 have hc:w.cell? ⟨b,0,none⟩=some u:=by simpa using (I.cells 0 u rfl).1
 simp [loadVar,DP,KR F,hc]
section
variable (P:Program) (N:Nat) (r:Option Nat) (n0:Nat) (ds:List Deferred) (Q0:Exit -> Act -> World -> Prop)
def JZ:List Frame->Exit->Act->World->Prop
 |[]=>Q0
 | .seq c::fs=>Exit.then (fun a w=>c.wpIn (Wr r) n0 P (JZ fs) a w) (JZ fs)
 | .blk id::fs=>Exit.inBlock id (JZ fs)
 | .lp f::fs=>Exit.then f (JZ fs)
def Th(m:Md)(fs:List Frame)(K:KL)(w:World):Prop:=match m with
 | .c c=>WX P N r n0 ds c (JZ P r n0 Q0 fs) K w
 | .o ops l=>TL P N ops (DQ (JZ P r n0 Q0 fs) ds) l K w
 | .e e=>NY N ds (JZ P r n0 Q0 fs) e K w
def HO:Nat->Md->List Frame->KL->World->Prop
 |0=>fun m fs K w=>Th P N r n0 ds Q0 m fs K w
 |n+1=>fun m fs K w=>match m with
  | .c c=>match c with
   | .seq x y=>HO n (.c x) (.seq y::fs) K w
   | .region _ ops false=>match ops.toList.all jB with
    |true=>HO n (.o ops ops.toList) fs K w
    |false=>False
   | .block id x=>HO n (.c x) (.blk id::fs) K w
   | .skip=>HO n (.e .normal) fs K w
   | .exit id=>HO n (.e (.exit id)) fs K w
   | .ret=>HO n (.e .ret) fs K w
   |_=>False
  | .o ops l=>match l with
   |[]=>HO n (.e .normal) fs K w
   |o::rest=>match Iy N ops K o with
    | .yes=>match yq K o.op with
     |some v=>HO n (.o ops rest) fs (DE K o.dst v) w
     |none=>False
    | .skip=>HO n (.o ops rest) fs (DE K o.dst undef) w
    | .no=>False
  | .e e=>match fs with
   |[]=>False
   | .seq c::fs=>match e with
    | .normal=>HO n (.c c) fs K w
    | .ret=>HO n (.e .ret) fs K w
    | .exit id=>HO n (.e (.exit id)) fs K w
    |_=>False
   | .blk id::fs=>match e with
    | .normal=>HO n (.e .normal) fs K w
    | .ret=>HO n (.e .ret) fs K w
    | .exit id'=>bif Nat.beq id' id then HO n (.e .normal) fs K w else HO n (.e (.exit id')) fs K w
    |_=>False
   | .lp _::_=>False
end
section
variable {P:Program} {N:Nat} {r:Option Nat} {n0:Nat} {ds:List Deferred} {Q0:Exit -> Act -> World -> Prop}
theorem NY.of_out{Q:Exit->Act->World->Prop}{K:KL}{w:World}(h:NY N ds Q .normal K w):∀a,Kn N K a->DQ Q ds .normal a w:=fun a E=>⟨E.df,by simp,h a E⟩
theorem HO.ok:∀(n:Nat) {m:Md} {fs:List Frame} {K:KL} {w:World},HO P N r n0 ds Q0 n m fs K w->Th P N r n0 ds Q0 m fs K w
 |0,_,_,_,_,h=>h
 |n+1,m,fs,K,w,h=>by
  cases m with
  |c c=>
   cases c with
   |seq x y=>exact WX.seq (HO.ok n h)
   |region id ops d=>
    cases d with
    |false=>
     simp only [HO]at h
     split at h
     case h_2=>exact h.elim
     rename_i U
     have E:TL P N ops (DQ (JZ P r n0 Q0 fs) ds) ops.toList K w:=HO.ok n h
     show WX P N r n0 ds (.region id ops false) (JZ P r n0 Q0 fs) K w
     have:ops=ops.toList.toArray:=by simp
     rw [this];rw [this]at E
     exact WX.region (by simpa using U) (by simpa using E)
    |true=>exact h.elim
   |block id x=>exact WX.block (HO.ok n h)
   |skip=>exact WX.skip (HO.ok n h)
   |exit id=>exact WX.exit (HO.ok n h)
   |ret=>exact WX.ret (HO.ok n h)
   |cond _ _ _=>exact h.elim
   |loop _=>exact h.elim
   |_=>exact h.elim
  |o ops l=>
   cases l with
   |nil=>exact TL.nil (NY.of_out (HO.ok n h:Th P N r n0 ds Q0 (.e .normal) fs K w))
   |cons o rest=>
    simp only [HO]at h
    split at h
    ·rename_i J
     split at h
     ·rename_i v O;exact Yl J (LV O) (HO.ok n h)
     ·exact h.elim
    ·rename_i J;exact Sk J (HO.ok n h)
    ·exact h.elim
  |e e=>
   cases fs with
   |nil=>exact h.elim
   |cons f fs=>
    cases f with
    |seq c=>
     cases e with
     |normal=>exact(HO.ok n h:Th P N r n0 ds Q0 (.c c) fs K w)
     |ret=>exact(HO.ok n h:Th P N r n0 ds Q0 (.e .ret) fs K w)
     |exit id=>exact(HO.ok n h:Th P N r n0 ds Q0 (.e (.exit id)) fs K w)
     |_=>exact h.elim
    |blk id=>
     cases e with
     |normal=>exact(HO.ok n h:Th P N r n0 ds Q0 (.e .normal) fs K w)
     |ret=>exact(HO.ok n h:Th P N r n0 ds Q0 (.e .ret) fs K w)
     |exit id'=>
      simp only [HO]at h
      cases hb:Nat.beq id' id with
      |true=>
       rw [hb]at h
       obtain rfl:=Bh hb
       have E:Th P N r n0 ds Q0 (.e .normal) fs K w:=HO.ok n h
       intro a I
       have:=E a I
       simpa [JZ,Exit.inBlock] using this
      |false=>
       rw [hb]at h
       have E:Th P N r n0 ds Q0 (.e (.exit id')) fs K w:=HO.ok n h
       intro a I
       have:=E a I
       have F:id'≠id:=fun e=>by rw [e]at hb;simp at hb
       simpa [JZ,Exit.inBlock,F] using this
     |_=>exact h.elim
    |lp f=>exact h.elim
variable {K:KL} {w:World} {fs:List Frame} {ops:Array Oper}
theorem Xc(n:Nat){c:Code}(h:HO P N r n0 ds Q0 n (.c c) fs K w):WX P N r n0 ds c (JZ P r n0 Q0 fs) K w:=HO.ok (m:=.c c) n h
theorem Xo(n:Nat){l:List Oper}(h:HO P N r n0 ds Q0 n (.o ops l) fs K w):TL P N ops (DQ (JZ P r n0 Q0 fs) ds) l K w:=HO.ok (m:=.o ops l) n h
theorem Xe(n:Nat){e:Exit}(h:HO P N r n0 ds Q0 n (.e e) fs K w):NY N ds (JZ P r n0 Q0 fs) e K w:=HO.ok (m:=.e e) n h
theorem Xw{α:Type}{c:Operand}{x y:Code}{t:Bool}{A B:Option α}{s:α}{Q:Exit->Act->World->Prop}(hc:ES K c=some (.bool t))(E:(bif t then A else B)=some s)(I:A=some s->WX P N r n0 ds x Q K w)(F:B=some s->WX P N r n0 ds y Q K w):WX P N r n0 ds (.cond c x y) Q K w:=
 WX.cond hc (fun h=>I (Pi h E)) (fun h=>F (PV h E))
end
/-! ## A range over slices.Backward -/
def Ob(w:World)(k:Nat)(o:Obj):Prop:=w.heap[k]? =some o
theorem Ob.lt{w:World}{k:Nat}{o:Obj}(h:Ob w k o):k<w.heap.size:=(Ct.1 h).1
theorem Ob.ext{w w':World}{k:Nat}{o:Obj}(h:Ob w k o)(E:Bl w w'):Ob w' k o:=by unfold Ob;rw [E.block k h.lt];exact h
theorem Ob.upd{w w':World}{k c:Nat}{o:Obj}(h:Ob w k o)(F:JF c w w')(E:k≠c):Ob w' k o:=by unfold Ob;rw [F.block k E];exact h
theorem Ob.but{p:Nat->Prop}{w w':World}{k:Nat}{o:Obj}(h:Ob w k o)(F:Cb p w w')(E:∀j,p j->j≠k):Ob w' k o:=by unfold Ob;rw [F.block k h.lt (fun e=>E k e rfl)];exact h
instance {w w':World}{d:Nat}{o:Obj}:Mv w w' (Ob w d o) (Ob w' d o) True:=⟨fun h _ k=>h.ext k⟩
instance {b:Nat}{w w':World}{d:Nat}{o:Obj}:Mu b w w' (Ob w d o) (Ob w' d o) (d≠b):=⟨fun h s k=>h.upd k s⟩
instance {b:Nat}{w w':World}{d:Nat}{o:Obj}:Mb b w w' (Ob w d o) (Ob w' d o) (b≠d):=⟨fun h s k=>h.but k (Ab s)⟩
theorem PN(w:World)(k:Nat)(o:Obj):JF k w (w.putObj k o):=⟨rfl,rfl,rfl,by simp,fun j E=>World.putObj_heap_other E⟩
theorem eH{w:World}{k:Nat}{o E:Obj}(h:Ob w k o):Ob (w.putObj k E) k E:=World.putObj_heap_same h.lt
theorem Fj{F:Fence}{n:Nat}{P:Program}{ops:Array Oper}{Q:Exit->Act->World->Prop}{l2:List Oper}:∀{l1:List Oper} {a:Act} {w:World},wpListIn F n P ops (Exit.then (fun O w'=>wpListIn F n P ops Q l2 O w') Q) l1 a w->wpListIn F n P ops Q (l1++l2) a w
 |[],_,_,h=>h
 |o::l1,a,w,h=>by
  unfold wpListIn at h
  show wpListIn F n P ops Q (o::(l1++l2)) a w
  unfold wpListIn
  split at h
  ·rename_i J
   rw [BE J]
   refine⟨h.1,?_⟩
   have h:=h.2
   generalize (o.semAt F.round a.eval).run P w=x at h
   cases x with
   |ok v w'=>
    cases v with
    |value v=>exact Fj h
    |skip=>exact Fj h
    |defer d=>exact Fj h
    |enter f args=>
     refine⟨h.1,h.2.mono fun e I E=>?_⟩
     cases e with
     |returned v=>exact Fj E
     |panicked c=>exact E
     |outgrown=>exact E
    |row row args=>exact⟨h.1,h.2.mono fun v I E=>Fj E⟩
    |round l f tmps U bd=>
     refine⟨h.1,h.2.mono fun e I E=>?_⟩
     cases e with
     |returned v=>exact Fj E
     |panicked c=>exact E
     |outgrown=>exact E
    |_=>exact h
   |halt e w'=>
    cases e with
    |panic v=>exact h
    |_=>exact h
  ·rename_i J
   rw [BU J]
   exact⟨h.1,Fj h.2⟩
section
variable {P:Program} {fn:Func} {gf b:Nat} {tx:TypeId} {v:Value} {xs:List Int} {lo hi:Nat} {ts ti te tb:TypeId} {tys:Array TypeId} {i0 i1 i2 i3:Nat} {t1 t2 t3 t4 t5 t6 t7 t8 t9 t10 t11 t12 t13 t14 t15 t16 t17:TypeId} {p1 p2 p3 p4 p5 p6 p7 p8 p9 p10 p11 p12 p13 p14 p15 p16 p17:String} {a1 a2 a3 a4 a5 a6 a7 a8 a9 a10 a11 a12 a13 a14 a15 a16 a17:Array Edge}
theorem VV(L:Nat){Q:Exit->Act->World->Prop}{i x:Int}{W:World}(n:Nat)
 (hu:P.underlying ts=some (.slice te)) (hc:Cp P te=some 1) (hg:Ei P te=some false) (b3:Ei P ts=some false)
 (X:Bu W b [v] tx) (S:Ae (CR .i64) W (Iv lo hi) xs v) (hx:AU xs i=some x)
 (hy:YieldAt Fence.wide n P L #[.int .i64 i,.int .i64 x] W fun e W'=>∃t:Bool,e= .returned (.bool t)∧NX 19 Q .normal [(18,.bool (!t)),(3,.int .i64 i),(1,.pointer (some ⟨b,0,none⟩)),(0,.func (.yield L) #[] #[])] W'):
 WC P 19 (.region i3 #[⟨some 11,.move (.tmp 0),t7,p7,a7,none⟩,⟨some 12,.move (.tmp 3),t8,p8,a8,none⟩,⟨some 13,.load ts (.tmp 1),t9,p9,a9,none⟩,⟨some 14,.move (.tmp 3),t10,p10,a10,none⟩,⟨some 15,.indexAddr ts (.tmp 13) (.tmp 14),t11,p11,a11,none⟩,⟨some 16,.load te (.tmp 15),t12,p12,a12,none⟩,⟨some 17,.call ⟨.value (.tmp 11),#[.tmp 12,.tmp 16],tys⟩,t13,p13,a13,none⟩,⟨some 18,.unOp .not tb (.tmp 17),t14,p14,a14,none⟩] false) Q [(3,.int .i64 i),(1,.pointer (some ⟨b,0,none⟩)),(0,.func (.yield L) #[] #[])] W:=by
 intro a hK
 have ea:({ a with defers:=[] }:Act)=a:=by have:=hK.df;cases a;simp_all
 refine(wpIn_wide (n:=n+1)).1 (wpIn_region_lit (Fj (l1:=[⟨some 11,.move (.tmp 0),t7,p7,a7,none⟩,⟨some 12,.move (.tmp 3),t8,p8,a8,none⟩,⟨some 13,.load ts (.tmp 1),t9,p9,a9,none⟩,⟨some 14,.move (.tmp 3),t10,p10,a10,none⟩,⟨some 15,.indexAddr ts (.tmp 13) (.tmp 14),t11,p11,a11,none⟩,⟨some 16,.load te (.tmp 15),t12,p12,a12,none⟩]) (l2:=[⟨some 17,.call ⟨.value (.tmp 11),#[.tmp 12,.tmp 16],tys⟩,t13,p13,a13,none⟩,⟨some 18,.unOp .not tb (.tmp 17),t14,p14,a14,none⟩]) ?_))
 have h1:TL P 19 #[⟨some 11,.move (.tmp 0),t7,p7,a7,none⟩,⟨some 12,.move (.tmp 3),t8,p8,a8,none⟩,⟨some 13,.load ts (.tmp 1),t9,p9,a9,none⟩,⟨some 14,.move (.tmp 3),t10,p10,a10,none⟩,⟨some 15,.indexAddr ts (.tmp 13) (.tmp 14),t11,p11,a11,none⟩,⟨some 16,.load te (.tmp 15),t12,p12,a12,none⟩,⟨some 17,.call ⟨.value (.tmp 11),#[.tmp 12,.tmp 16],tys⟩,t13,p13,a13,none⟩,⟨some 18,.unOp .not tb (.tmp 17),t14,p14,a14,none⟩] (DQ (Exit.then (fun F w'=>wpListIn Fence.wide (n+1) P #[⟨some 11,.move (.tmp 0),t7,p7,a7,none⟩,⟨some 12,.move (.tmp 3),t8,p8,a8,none⟩,⟨some 13,.load ts (.tmp 1),t9,p9,a9,none⟩,⟨some 14,.move (.tmp 3),t10,p10,a10,none⟩,⟨some 15,.indexAddr ts (.tmp 13) (.tmp 14),t11,p11,a11,none⟩,⟨some 16,.load te (.tmp 15),t12,p12,a12,none⟩,⟨some 17,.call ⟨.value (.tmp 11),#[.tmp 12,.tmp 16],tys⟩,t13,p13,a13,none⟩,⟨some 18,.unOp .not tb (.tmp 17),t14,p14,a14,none⟩] Q [⟨some 17,.call ⟨.value (.tmp 11),#[.tmp 12,.tmp 16],tys⟩,t13,p13,a13,none⟩,⟨some 18,.unOp .not tb (.tmp 17),t14,p14,a14,none⟩] F w') Q) []) [⟨some 11,.move (.tmp 0),t7,p7,a7,none⟩,⟨some 12,.move (.tmp 3),t8,p8,a8,none⟩,⟨some 13,.load ts (.tmp 1),t9,p9,a9,none⟩,⟨some 14,.move (.tmp 3),t10,p10,a10,none⟩,⟨some 15,.indexAddr ts (.tmp 13) (.tmp 14),t11,p11,a11,none⟩,⟨some 16,.load te (.tmp 15),t12,p12,a12,none⟩] [(3,.int .i64 i),(1,.pointer (some ⟨b,0,none⟩)),(0,.func (.yield L) #[] #[])] W:=by
  refine Yl rfl (LV rfl) (Yl rfl (LV rfl) (Yl rfl (FB rfl b3 X rfl) (Yl rfl (LV rfl) ?_)))
  refine Il (g:=fun y=>if y=x then some ()else none) (r:=()) (by rw [hx];simp) S hu hc hg fun y hF u=>?_
  obtain rfl:y=x:=by by_cases e:y=x<;>simp [e]at hF ⊢
  refine TL.nil fun F E=>⟨E.df,by simp,?_⟩
  have b5:({ F with defers:=[] }:Act)=F:=by have:=E.df;cases F;simp_all
  rw [b5]
  show wpListIn Fence.wide (n+1) P #[⟨some 11,.move (.tmp 0),t7,p7,a7,none⟩,⟨some 12,.move (.tmp 3),t8,p8,a8,none⟩,⟨some 13,.load ts (.tmp 1),t9,p9,a9,none⟩,⟨some 14,.move (.tmp 3),t10,p10,a10,none⟩,⟨some 15,.indexAddr ts (.tmp 13) (.tmp 14),t11,p11,a11,none⟩,⟨some 16,.load te (.tmp 15),t12,p12,a12,none⟩,⟨some 17,.call ⟨.value (.tmp 11),#[.tmp 12,.tmp 16],tys⟩,t13,p13,a13,none⟩,⟨some 18,.unOp .not tb (.tmp 17),t14,p14,a14,none⟩] Q [⟨some 17,.call ⟨.value (.tmp 11),#[.tmp 12,.tmp 16],tys⟩,t13,p13,a13,none⟩,⟨some 18,.unOp .not tb (.tmp 17),t14,p14,a14,none⟩] F W
  refine wpListIn_plain rfl fun Kt b2=>⟨fun f _=>trivial,?_⟩
  show Oper.uponIn Fence.wide (n+1) P ⟨some 17,.call ⟨.value (.tmp 11),#[.tmp 12,.tmp 16],tys⟩,t13,p13,a13,none⟩ F Kt Q ((execOp F.eval ⟨some 17,.call ⟨.value (.tmp 11),#[.tmp 12,.tmp 16],tys⟩,t13,p13,a13,none⟩).run P W)
  obtain⟨b4,tm,as,bd,b0,hR⟩:=hy
  have Y:=E.ev (x:=.tmp 11) rfl
  have b6:=E.ev (x:=.tmp 12) rfl
  have b1:=E.ev (x:=.tmp 16) rfl
  have hr:(execOp F.eval ⟨some 17,.call ⟨.value (.tmp 11),#[.tmp 12,.tmp 16],tys⟩,t13,p13,a13,none⟩).run P W= .ok (.round L b4 tm as bd) W:=by
   simp [execOp,resolve,Y,b6,b1,Deferred.ofValue,invoke,b0]
  rw [hr]
  refine⟨fun h=>(by cases h),hR.mono fun e W' hq=>?_⟩
  obtain⟨t,rfl,hN⟩:=hq
  refine b2 _ _ ?_
  have O:=E.put (d:=some 17) (v:=.bool t) (by intro _ e;cases e;rfl)
  have a0:Kn 19 [(17,.bool t),(3,.int .i64 i),(1,.pointer (some ⟨b,0,none⟩)),(0,.func (.yield L) #[] #[])] (F.put (some 17) (.bool t)):=O.sub rfl
  have h3:TL P 19 #[⟨some 11,.move (.tmp 0),t7,p7,a7,none⟩,⟨some 12,.move (.tmp 3),t8,p8,a8,none⟩,⟨some 13,.load ts (.tmp 1),t9,p9,a9,none⟩,⟨some 14,.move (.tmp 3),t10,p10,a10,none⟩,⟨some 15,.indexAddr ts (.tmp 13) (.tmp 14),t11,p11,a11,none⟩,⟨some 16,.load te (.tmp 15),t12,p12,a12,none⟩,⟨some 17,.call ⟨.value (.tmp 11),#[.tmp 12,.tmp 16],tys⟩,t13,p13,a13,none⟩,⟨some 18,.unOp .not tb (.tmp 17),t14,p14,a14,none⟩] (DQ Q []) [⟨some 18,.unOp .not tb (.tmp 17),t14,p14,a14,none⟩] [(17,.bool t),(3,.int .i64 i),(1,.pointer (some ⟨b,0,none⟩)),(0,.func (.yield L) #[] #[])] W':=
   Yl rfl (LV rfl) (TL.nil fun J I=>⟨I.df,by simp,by
    have U:({ J with defers:=[] }:Act)=J:=by have:=I.df;cases J;simp_all
    rw [U];exact hN J (I.sub rfl)⟩)
  have h4:=Qn (r:=none) (n:=n+1) oN (by rfl) O.df (h3 _ a0)
  have Z:({ (F.put (some 17) (.bool t))with defers:=[] }:Act)=F.put (some 17) (.bool t):=by rw [←O.df]
  rw [Z]at h4
  exact h4
 have h2:=Qn (r:=none) (n:=n+1) oN (by rfl) hK.df (h1 a hK)
 rw [ea]at h2
 exact h2
theorem XY(L:Nat)(n:Nat){M:Nat->Int->World->Prop}{R:World->Prop}(hf:P.funcs[gf]? =some fn)(hb:fn.body=some (.seq (.region i0 #[⟨some 4,.load ts (.tmp 1),t1,p1,a1,none⟩,⟨some 5,.call ⟨.builtin .len,#[.tmp 4],#[ts]⟩,t2,p2,a2,none⟩,⟨some 6,.binOp .sub ti (.tmp 5) (.const (.int .i64 1)) ti,t3,p3,a3,none⟩,⟨some 3,.assign (.tmp 6),t4,p4,a4,none⟩] false) (.block 0 (.loop (.seq (.seq (.region i1 #[⟨some 7,.move (.tmp 3),t5,p5,a5,none⟩,⟨some 8,.binOp .geq ti (.tmp 7) (.const (.int .i64 0)) ti,t6,p6,a6,none⟩] false) (.cond (.tmp 8) .skip (.exit 0))) (.seq (.block 1 (.seq (.region i3 #[⟨some 11,.move (.tmp 0),t7,p7,a7,none⟩,⟨some 12,.move (.tmp 3),t8,p8,a8,none⟩,⟨some 13,.load ts (.tmp 1),t9,p9,a9,none⟩,⟨some 14,.move (.tmp 3),t10,p10,a10,none⟩,⟨some 15,.indexAddr ts (.tmp 13) (.tmp 14),t11,p11,a11,none⟩,⟨some 16,.load te (.tmp 15),t12,p12,a12,none⟩,⟨some 17,.call ⟨.value (.tmp 11),#[.tmp 12,.tmp 16],tys⟩,t13,p13,a13,none⟩,⟨some 18,.unOp .not tb (.tmp 17),t14,p14,a14,none⟩] false) (.cond (.tmp 18) .ret .skip))) (.region i2 #[⟨some 9,.move (.tmp 3),t15,p15,a15,none⟩,⟨some 10,.binOp .sub ti (.tmp 9) (.const (.int .i64 1)) ti,t16,p16,a16,none⟩,⟨some 3,.assign (.tmp 10),t17,p17,a17,none⟩] false)))))))(hn:fn.ntmps=19)(hr:fn.results= #[])
 (hu:P.underlying ts=some (.slice te)) (hc:Cp P te=some 1) (hg:Ei P te=some false) (J:Ei P ts=some false)
 (hM:∀m i W,M m i W->Bu W b [v] tx∧Ae (CR .i64) W (Iv lo hi) xs v)
 (hy:∀m i W,M m i W->i>=0->∃x,AU xs i=some x∧YieldAt Fence.wide n P L #[.int .i64 i,.int .i64 x] W fun e E=>(e= .returned (.bool true)∧∃m',m'<m∧M m' (IntKind.wrap .i64 (i-1)) E)∨(e= .returned (.bool false)∧R E))
 {m:Nat} {W:World} (h0:M m (IntKind.wrap .i64 ((xs.length:Int)-1)) W):
 Calls P gf #[.func (.yield L) #[] #[],.pointer (some ⟨b,0,none⟩)] W fun e E=>(∃v,e= .returned v)∧((∃m i,i<0∧M m i E)∨R E):=by
 obtain⟨X,S⟩:=hM _ _ _ h0
 refine AI hf hb hn (vs:=[.func (.yield L) #[] #[],.pointer (some ⟨b,0,none⟩)]) ?_
 refine Rc 2 (Yl rfl (FB rfl J X rfl) (Yl rfl (IF rfl hu S) (Ro 5 ?_)))
 refine WC.loopD (fun m a Y=>∃i,Kn 19 [(3,.int .i64 i),(1,.pointer (some ⟨b,0,none⟩)),(0,.func (.yield L) #[] #[])] a∧M m i Y) m ?_ ?_
 ·intro a I;exact⟨_,I.sub rfl,h0⟩
 ·rintro m a Y ⟨i,I,F⟩
  revert a;change WC _ _ _ _ _ _
  obtain⟨X,S⟩:=hM _ _ _ F
  refine Rc 7 ?_
  refine WC.cond (t:=decide (i>=0)) rfl (fun h=>?_) (fun h=>?_)
  ·obtain⟨x,hx,hY⟩:=hy m i Y F (Cu h)
   obtain⟨b0,tm,as,bd,U,hR⟩:=hY
   refine Rc 5 (fun a I=>VV (te:=te) (Q:=IQ P (bodyPost P fn fun e E=>(∃v,e= .returned v)∧((∃m i,i<0∧M m i E)∨R E)) _) L n hu hc hg J X S hx ⟨b0,tm,as,bd,U,hR.mono ?_⟩ a (I.sub rfl))
   rintro e E (⟨rfl,m',hm,a0⟩|⟨rfl,Z⟩)
   ·refine⟨true,rfl,?_⟩
    refine Re 1 ?_
    refine WC.cond (t:=false) rfl (fun h=>by cases h) (fun _=>?_)
    refine Rc 7 ?_
    intro a I
    exact⟨m',hm,_,I.sub rfl,a0⟩
   ·refine⟨false,rfl,?_⟩
    refine Re 1 ?_
    refine WC.cond (t:=true) rfl (fun _=>?_) (fun h=>by cases h)
    refine Rc 5 ?_
    exact NX.end (P:=P) (R:=fun e E=>(∃v,e=Ending.returned v)∧((∃m i,i<0∧M m i E)∨R E)) (rs:=[]) (vs:=[]) hr trivial ⟨⟨_,rfl⟩,.inr Z⟩
  ·have O:i<0:=by have:=FI h;omega
   refine Rc 4 ?_
   exact NX.end_n (P:=P) (R:=fun e E=>(∃v,e=Ending.returned v)∧((∃m i,i<0∧M m i E)∨R E)) (rs:=[]) (vs:=[]) hr trivial ⟨⟨_,rfl⟩,.inl ⟨m,i,O,F⟩⟩
theorem zf1{α β:Type}(F E:α)(x y:β):Array.zip #[F,E] #[x,y]= #[(F,x),(E,y)]:=by
 apply Array.ext';simp [Array.zip]
theorem tB{α:Type}(t:Array α)(F E:Nat)(x y:α):(Array.zip #[F,E] #[x,y]).foldl (fun(t:Array α) (p:Nat×α)=>t.setIfInBounds p.1 p.2) t=(t.setIfInBounds F x).setIfInBounds E y:=by
 rw [zf1];rfl
theorem JF.tr{k:Nat}{F O J:World}(h:JF k F O)(E:JF k O J):JF k F J:=⟨E.os.trans h.os,E.tape.trans h.tape,E.output.trans h.output,E.size.trans h.size,fun j I=>(E.block j I).trans (h.block j I)⟩
def lS(D:Nat):Deferred:={ target:=.collected D,args:=#[] }
abbrev sL:Obj:=.deferred (some [])
theorem Vu{n:Nat}{Q0:Exit->Act->World->Prop}:∀fs:List Frame,JZ P none n Q0 fs=IQ P Q0 fs
 |[]=>rfl
 | .seq c::fs=>by
  have:(fun a w=>c.wpIn (Wr none) n P (JZ P none n Q0 fs) a w)=fun a w=>c.wp P (IQ P Q0 fs) a w:=by
   funext a w;rw [Vu fs];exact propext wpIn_wide
  show Exit.then (fun a w=>c.wpIn (Wr none) n P (JZ P none n Q0 fs) a w) (JZ P none n Q0 fs)=Exit.then (fun a w=>c.wp P (IQ P Q0 fs) a w) (IQ P Q0 fs)
  rw [this,Vu fs]
 | .blk id::fs=>by show Exit.inBlock id (JZ P none n Q0 fs)=Exit.inBlock id (IQ P Q0 fs);rw [Vu fs]
 | .lp f::fs=>by show Exit.then f (JZ P none n Q0 fs)=Exit.then f (IQ P Q0 fs);rw [Vu fs]
theorem NY.endM{N:Nat}{K:KL}{w:World}{rs:List ResultVar}{vs:List Value}{R:Ending->World->Prop}{D:Nat}(I:fn.results=rs.toArray)(W:Ob w D sL)(h:∀w',JF D w w'->Rr P K w' rs vs∧R (.returned (Hd vs)) w'):NY N [lS D] (bodyPostM Fence.wide 0 P fn R) .ret K w:=by
 intro a J
 obtain⟨O,E⟩:=h (w.putObj D (.deferred none)) (PN _ _ _)
 obtain⟨_,v,U,F⟩:=TY (N:=N) I O E a J
 show LeavesInM Fence.wide 0 P fn a.tmps R [lS D] .returning w
 exact⟨by simp,.inl ⟨D,_,rfl,run_takeDeferred W,⟨v,U,F⟩⟩⟩
theorem YZ{N:Nat}{f:FuncId}{c:Code}{vs:List Value}{w:World}{R:Ending->World->Prop}
 (I:P.funcs[f]? =some fn) (O:fn.body=some c) (U:fn.ntmps=N) (h:WC P N c (IQ P (bodyPostM Fence.wide 0 P fn R) []) (Sc 0 vs) w):Calls P f vs.toArray w R:=by
 refine callsIn_wide.1 (callsIn_of_wp_marks (n:=0) I O trivial (wpIn_wide.2 (h _ ⟨rfl,?_,?_⟩)))
 ·simp [U];omega
 ·intro t v J
  obtain⟨_,F⟩:=RP vs 0 t v J
  have E:t<vs.length:=by
   rcases GU t vs.length with h|h
   ·exact h
   ·simp [h]at F
  simp at F
  rw [Array.getElem?_append_left (by simpa using E)]
  simpa using F
def QB(P:Program)(N:Nat)(D L:Nat)(rb:Obj)(Q:Exit->Act->World->Prop)(K:KL)(Mn:World->Prop):Exit->Act->World->Prop
 | .normal,_,W=>Ob W L rb∧∀W4,JF L W W4->Mn W4
 | .ret,_,W=>Ob W L rb∧∀W4,JF L W W4->NY N [lS D] Q .ret K W4
 |_,_,_=>False
theorem WC.back{N:Nat}{g:Operand}{O U d:Tmp}{ia:Nat}{J:Oper}{body:Code}{fs:List Frame}{Q0:Exit->Act->World->Prop}{K:KL}{w:World}(M:Nat->Nat->Nat->Int->World->Prop)
 (hf:P.funcs[gf]? =some fn) (hb:fn.body=some (.seq (.region i0 #[⟨some 4,.load ts (.tmp 1),t1,p1,a1,none⟩,⟨some 5,.call ⟨.builtin .len,#[.tmp 4],#[ts]⟩,t2,p2,a2,none⟩,⟨some 6,.binOp .sub ti (.tmp 5) (.const (.int .i64 1)) ti,t3,p3,a3,none⟩,⟨some 3,.assign (.tmp 6),t4,p4,a4,none⟩] false) (.block 0 (.loop (.seq (.seq (.region i1 #[⟨some 7,.move (.tmp 3),t5,p5,a5,none⟩,⟨some 8,.binOp .geq ti (.tmp 7) (.const (.int .i64 0)) ti,t6,p6,a6,none⟩] false) (.cond (.tmp 8) .skip (.exit 0))) (.seq (.block 1 (.seq (.region i3 #[⟨some 11,.move (.tmp 0),t7,p7,a7,none⟩,⟨some 12,.move (.tmp 3),t8,p8,a8,none⟩,⟨some 13,.load ts (.tmp 1),t9,p9,a9,none⟩,⟨some 14,.move (.tmp 3),t10,p10,a10,none⟩,⟨some 15,.indexAddr ts (.tmp 13) (.tmp 14),t11,p11,a11,none⟩,⟨some 16,.load te (.tmp 15),t12,p12,a12,none⟩,⟨some 17,.call ⟨.value (.tmp 11),#[.tmp 12,.tmp 16],tys⟩,t13,p13,a13,none⟩,⟨some 18,.unOp .not tb (.tmp 17),t14,p14,a14,none⟩] false) (.cond (.tmp 18) .ret .skip))) (.region i2 #[⟨some 9,.move (.tmp 3),t15,p15,a15,none⟩,⟨some 10,.binOp .sub ti (.tmp 9) (.const (.int .i64 1)) ti,t16,p16,a16,none⟩,⟨some 3,.assign (.tmp 10),t17,p17,a17,none⟩] false))))))) (hn:fn.ntmps=19) (hr:fn.results= #[]) (c3:Bm P gf=true)
 (hu:P.underlying ts=some (.slice te)) (hc:Cp P te=some 1) (hg:Ei P te=some false) (c4:Ei P ts=some false)
 (b8:ES K g=some (.func (.func gf) #[] #[.pointer (some ⟨b,0,none⟩)]))
 (hM:∀D L m i W,M D L m i W->Bu W b [v] tx∧Ae (CR .i64) W (Iv lo hi) xs v)
 (h0:∀D L W,Bl w W->Ob W D sL->w.heap.size<=D->w.heap.size<=L->D≠L->∃m,M D L m (IntKind.wrap .i64 ((xs.length:Int)-1)) W)
 (b0:∀D L rb m i W0 W,w.heap.size<=D->w.heap.size<=L->D≠L->M D L m i W0->i>=0->JF L W0 W->Ob W L rb->∃x,AU xs i=some x∧
  WX P N (some L) 0 [] body (JZ P (some L) 0 (QB P N D L rb (JZ P none 0 Q0 fs) K fun W4=>∃m',m'<m∧M D L m' (IntKind.wrap .i64 (i-1)) W4) []) ((d,.int .i64 x)::(U,.int .i64 x)::(O,.int .i64 i)::K) W)
 (done:∀D L m i W0 W,w.heap.size<=D->w.heap.size<=L->D≠L->M D L m i W0->i<0->JF L W0 W->NY N [lS D] (JZ P none 0 Q0 fs) .normal K W)
 (b6:Nat.blt O N=true:=by rfl) (hq2:Nat.blt U N=true:=by rfl) (hda:J.dst=some d:=by rfl)
 (hga:∀i x:Int,Iy N #[J] ((U,.int .i64 x)::(O,.int .i64 i)::K) J= .yes:=by intros;rfl) (hqa:∀i x:Int,yq ((U,.int .i64 x)::(O,.int .i64 i)::K) J.op=some (.int .i64 x):=by intros;rfl) (hnd:jB J=true:=by rfl):
 WC P N (.rangeFunc g #[O,U] (.region ia #[J] false) body) (IQ P Q0 fs) K w:=by
 intro a hK
 rw [←Vu (n:=0) fs]
 refine(wpIn_wide (n:=0)).1 (wpIn_rangeFunc fun b5 _=>?_)
 obtain⟨rec,E⟩:∃rec:LoopState->Option Code->Loop,rec=fun st pe=>{ state:=st,pending:=pe,fn:=b5,tmps:=a.tmps,params:=#[O,U],assign:=.region ia #[J] false,body,defers:=w.heap.size }:=⟨_,rfl⟩
 obtain⟨Z,Y⟩:∃Z,(w.alloc sL).alloc (.loop (rec .ready none))=Z:=⟨_,rfl⟩
 have hE:Bl w Z:=by rw [←Y];exact(Bl.alloc w _).trans (Bl.alloc _ _)
 have hL:Ob Z (w.heap.size+1) (.loop (rec .ready none)):=by
  unfold Ob;rw [←Y];have:=World.alloc_heap_new (w.alloc sL) (.loop (rec .ready none));rwa [World.size_alloc]at this
 have hD:Ob Z w.heap.size sL:=by
  unfold Ob;rw [←Y];exact(Below.heap_alloc _ _ _ (by simp)).trans (World.alloc_heap_new w _)
 obtain⟨m0,c1⟩:=h0 w.heap.size (w.heap.size+1) Z hE hD (Bj _) (by omega) (by omega)
 have b9:=hK.ev b8
 refine⟨w.heap.size+1,[lS w.heap.size],Z,{ target:=.fn (.func gf) #[.pointer (some ⟨b,0,none⟩)],args:=#[.func (.yield (w.heap.size+1)) #[] #[]] },Z,gf,
  #[.func (.yield (w.heap.size+1)) #[] #[],.pointer (some ⟨b,0,none⟩)],Z,?_,?_,fun f _=>trivial,?_,fun h=>(by cases h),?_⟩
 ·rw [←Y,E];exact run_enterLoop_outer _ _ _ _ _
 ·simp only [resolve,b9];simp [go_sem]
 ·simp [invoke,go_sem,Qh c3]
 ·refine(UP (r:=none) (XY (w.heap.size+1) 0 (M:=fun m i W=>Ob W (w.heap.size+1) (.loop (rec .ready none))∧M w.heap.size (w.heap.size+1) m i W)
   (R:=fun W=>Ob W (w.heap.size+1) (.loop (rec .done (some .ret)))∧∀W4,JF (w.heap.size+1) W W4->NY N [lS w.heap.size] (JZ P none 0 Q0 fs) .ret K W4) hf hb hn hr hu hc hg c4 (fun m i W h=>hM _ _ _ _ _ h.2) ?_ ⟨hL,c1⟩)).mono ?_
  ·rintro m i W ⟨hl,hm⟩ hi
   have c0:Ob (W.putObj (w.heap.size+1) (.loop { rec .ready none with state:=.busy })) (w.heap.size+1) (.loop { rec .ready none with state:=.busy }):=eH hl
   obtain⟨x,hx,hB⟩:=b0 w.heap.size (w.heap.size+1) _ m i W _ (Bj _) (by omega) (by omega) hm hi (PN _ _ _) c0
   have hy:=run_yield (P:=P) (args:=#[.int .i64 i,.int .i64 x]) hl (by rw [E];rfl)
   rw [E]at hy
   refine⟨x,hx,b5,_,_,_,hy,roundIn_of_wpIn trivial ?_⟩
   have c5:=(hK.put (d:=some O) (v:=.int .i64 i) (by intro _ e;cases e;exact b6)).put (d:=some U) (v:=.int .i64 x) (by intro _ e;cases e;exact hq2)
   have hT:TL P N #[J] (DQ (Exit.then (fun a₁ w₁=>∃w₂,(Instr.beginRound (w.heap.size+1)).run P w₁= .ok () w₂∧body.wpIn (Fence.wide.inRound (w.heap.size+1)) 0 P (roundPost P (w.heap.size+1) fun e W'=>(e= .returned (.bool true)∧∃m',m'<m∧(Ob W' (w.heap.size+1) (.loop (rec .ready none))∧M w.heap.size (w.heap.size+1) m' (IntKind.wrap .i64 (i-1)) W'))∨(e= .returned (.bool false)∧(Ob W' (w.heap.size+1) (.loop (rec .done (some .ret)))∧∀W4,JF (w.heap.size+1) W' W4->NY N [lS w.heap.size] (JZ P none 0 Q0 fs) .ret K W4))) a₁ w₂) (fun _ _ _=>False)) []) [J] ((U,.int .i64 x)::(O,.int .i64 i)::K) W:=by
    refine Yl (hga i x) (LV (hqa i x)) (TL.nil fun a2 a0=>⟨a0.df,by simp,?_⟩)
    refine⟨_,run_beginRound hl (by rw [E]),?_⟩
    rw [hda]at a0
    refine wpIn_mono (hB a2 a0) ?_
    have b4:∀(F:Option Code) (W3:World),Ob W3 (w.heap.size+1) (.loop { rec .ready none with state:=.busy })->
     (Instr.endRound (w.heap.size+1) F).run P W3= .ok (.bool F.isNone) (W3.putObj (w.heap.size+1) (.loop (rec (if F.isNone then .ready else .done) F)))∧
     Ob (W3.putObj (w.heap.size+1) (.loop (rec (if F.isNone then .ready else .done) F))) (w.heap.size+1) (.loop (rec (if F.isNone then .ready else .done) F)):=fun F W3 I=>by
     have:=run_endRound (P:=P) F I
     rw [E]at this ⊢
     exact⟨this,by rw [E]at I;exact eH I⟩
    rintro e a3 W3 hp
    cases e with
    |normal=>
     obtain⟨I,b3⟩:=hp
     obtain⟨b2,b1⟩:=b4 none W3 I
     obtain⟨m',b7,h5⟩:=b3 _ (PN _ _ _)
     exact⟨_,_,b2,.inl ⟨rfl,m',b7,b1,h5⟩⟩
    |ret=>
     obtain⟨I,b3⟩:=hp
     obtain⟨b2,b1⟩:=b4 (some .ret) W3 I
     exact⟨_,_,b2,.inr ⟨rfl,b1,fun W4 h4=>b3 _ ((PN _ _ _).tr h4)⟩⟩
    |exit id=>exact hp.elim
    |goto t=>exact hp.elim
    |panic ch=>exact hp.elim
    |outgrown=>exact hp.elim
   have h2:=WX.region (id:=ia) (r:=some (w.heap.size+1)) (n:=0) (l:=[J]) (by simp [hnd]) hT _ c5
   have e:(Array.zip #[O,U] #[Value.int .i64 i,Value.int .i64 x]).foldl (fun(t:Array Value) (p:Tmp×Value)=>t.setIfInBounds p.1 p.2) a.tmps=((a.put (some O) (Value.int .i64 i)).put (some U) (Value.int .i64 x)).tmps:=tB _ _ _ _ _
   exact Eq.mpr (congrArg (fun t=>(Code.region ia #[J] false).wpIn (Wr (some (w.heap.size+1))) 0 P _ ({ tmps:=t,defers:=[] }:Act) W) e) h2
  ·rintro e W2 ⟨⟨v',rfl⟩,⟨m,i,hi,hl,hm⟩|⟨hl,hR⟩⟩
   ·refine⟨none,_,by have:=run_endLoop (P:=P) hl (by rw [E];simp);rw [E]at this;exact this,?_⟩
    have:=done w.heap.size (w.heap.size+1) m i W2 _ (Bj _) (by omega) (by omega) hm hi (PN W2 (w.heap.size+1) (.loop { rec .ready none with state:=.exhausted })) a hK
    rw [E]at this
    rw [hK.df];exact this
   ·refine⟨some .ret,_,by have:=run_endLoop (P:=P) hl (by rw [E];simp);rw [E]at this;exact this,?_⟩
    have:=hR _ (PN W2 (w.heap.size+1) (.loop { rec .done (some .ret)with state:=.exhausted })) a hK
    rw [E]at this
    rw [hK.df];exact wpIn_ret this
theorem bkY{xs:List Int}{i:Int}{α:Type}{G:Int->Option α}{E:Option α}{s:α}(F:(bif decide (i>=0)then Option.bind (AU xs i) G else E)=some s)(hi:i>=0):∃x,AU xs i=some x∧G x=some s:=by
 rw [Aw hi,cond_true]at F
 cases h:AU xs i with
 |none=>rw [h]at F;cases F
 |some x=>rw [h]at F;exact⟨x,rfl,F⟩
theorem bkN{i:Int}{α:Type}{A E:Option α}{s:α}(F:(bif decide (i>=0)then A else E)=some s)(hi:i<0):E=some s:=by
 rw [Av (show¬i>=0 by omega),cond_false]at F;exact F
theorem QBn{N D L n:Nat}{r:Option Nat}{F:Obj}{Q:Exit->Act->World->Prop}{K K':KL}{Mn:World->Prop}{W:World}(I:Ob W L F)(J:∀E,JF L W E->Mn E):NY N [] (JZ P r n (QB P N D L F Q K Mn) []) .normal K' W:=fun _ _=>⟨I,J⟩
theorem QBr{N D L n:Nat}{r:Option Nat}{F:Obj}{Q:Exit->Act->World->Prop}{K K':KL}{Mn:World->Prop}{W:World}(I:Ob W L F)(J:∀E,JF L W E->NY N [lS D] Q .ret K E):NY N [] (JZ P r n (QB P N D L F Q K Mn) []) .ret K' W:=fun _ _=>⟨I,J⟩
end
end Go.Eng
namespace Go.Eng
open Go Go.RowKit
/-! ## Operations that only allocate, and may be done at any time -/
def lN(K:KL)(o:Oper):Prop:=∀d,o.dst=some d->kl K d=none
def gC(K K':KL):Prop:=∀t v,kl K t=some v->kl K' t=some v
def fY(o o2:Oper):Prop:=∀d d2,o.dst=some d->o2.dst=some d2->d≠d2
def outs:List (Nat×Nat)->Nat->Prop
 |[],_=>True
 |(l,h)::r,b=>(b<l∨h<=b)∧outs r b
def Zf:List (Nat×Nat)->Nat->Prop
 |[],_=>True
 |(_,h)::r,m=>h<=m∧Zf r m
theorem Zf.mono{m m':Nat}(h:m<=m'):∀{iv:List (Nat×Nat)},Zf iv m->Zf iv m'
 |[],_=>trivial
 |_::_,k=>⟨BH k.1 h,Zf.mono h k.2⟩
theorem Zf.outs{m b:Nat}(h:m<=b):∀{iv:List (Nat×Nat)},Zf iv m->outs iv b
 |[],_=>trivial
 |_::_,k=>⟨.inr (BH k.1 h),Zf.outs h k.2⟩
theorem fY.symm{o o2:Oper}(h:fY o o2):fY o2 o:=fun d E e e2 g=>h E d e2 e g.symm
theorem Sq{K:KL}{d:Option Tmp}{v:Value}(t:Nat):kl (DE K d v) t=match d with|some d=>(bif Nat.beq d t then some v else kl K t)|none=>kl K t:=by
 cases d<;>rfl
theorem gC.put{K:KL}{o:Oper}{v:Value}(h:lN K o):gC K (DE K o.dst v):=fun t u e=>by
 rw [Sq]
 cases hd:o.dst with
 |none=>exact e
 |some d=>
  have E:=h d hd
  show(bif Nat.beq d t then some v else kl K t)=some u
  cases c:Nat.beq d t with
  |false=>exact e
  |true=>rw [←Bh c,E]at e;cases e
theorem lN.put{K:KL}{o o2:Oper}{v:Value}(h:lN K o)(F:fY o o2):lN (DE K o2.dst v) o:=fun d E=>by
 rw [Sq]
 cases hd2:o2.dst with
 |none=>exact h d E
 |some I=>
  show(bif Nat.beq I d then some v else kl K d)=none
  cases c:Nat.beq I d with
  |false=>exact h d E
  |true=>exact absurd (Bh c).symm (F d I E hd2)
theorem Xx{K:KL}{o o2:Oper}{v E:Value}(I:fY o o2)(t:Nat):kl (DE (DE K o.dst v) o2.dst E) t=kl (DE (DE K o2.dst E) o.dst v) t:=by
 simp only [Sq]
 cases hd:o.dst with
 |none=>cases o2.dst<;>rfl
 |some d=>
  cases hd2:o2.dst with
  |none=>rfl
  |some F=>
   show(bif Nat.beq F t then some E else(bif Nat.beq d t then some v else kl K t))=(bif Nat.beq d t then some v else(bif Nat.beq F t then some E else kl K t))
   cases c:Nat.beq F t with
   |false=>rfl
   |true=>
    cases c2:Nat.beq d t with
    |false=>rfl
    |true=>exact absurd ((Bh c2).trans (Bh c).symm) (I d F hd hd2)
section
variable {P:Program} {N:Nat} {ops:Array Oper} {n:Nat} {Q:Exit -> Act -> World -> Prop}
theorem Jv.sub{K K':KL}{o:Oper}{w:World}{R:Value->World->Prop}(h:Jv P N K o w R)(F:gC K K'):Jv P N K' o w R:=fun a E Kt Q hk=>h a ⟨E.df,E.sz,fun t v e=>E.get t v (F t v e)⟩ Kt Q hk
theorem Jv.mono{K:KL}{o:Oper}{w:World}{R R':Value->World->Prop}(h:Jv P N K o w R)(hm:∀v w',R v w'->R' v w'):Jv P N K o w R':=fun a E Kt Q hk=>h a E Kt Q fun v w' F=>hk v w' (hm v w' F)
theorem HX.sub{K K':KL}{o:Oper}{w:World}{v:Value}(h:HX P N K o w v)(I:gC K K'):HX P N K' o w v:=fun a E w' F=>h a ⟨E.df,E.sz,fun t v e=>E.get t v (I t v e)⟩ w' F
def MC(ops:Array Oper):List Nat->List Nat->Array Bool->Bool
 |[],js,listed=>!(Region.ready .any ops listed).isEmpty&&(Region.ready .any ops listed).all fun x=>js.contains x
 |i::is,js,listed=>MC ops is (i::js) listed&&MC ops is js (listed.setIfInBounds i true)
def gE(ops:Array Oper)(n:Nat):List Nat->Nat->Array Bool->Bool
 |[],j,listed=>Nat.blt j n&&Region.free .any ops listed j&&(Region.ready .any ops listed).contains j
 |i::is,j,listed=>gE ops n is j listed&&gE ops n is j (listed.setIfInBounds i true)
class PB(P:outParam Program)(N:outParam Nat)(ops:outParam (Array Oper))(n:outParam Nat)(G:outParam (World->World->Prop))(B:outParam (World->Prop))(T:Nat->Array Bool->KL->World->Prop):Prop where
 refl:∀w,G w w
 ext:∀{w w2 w3},G w w2->Bl w2 w3->G w w3
 trans:∀{w w2 w3},G w w2->G w2 w3->G w w3
 size:∀{w w2},G w w2->w.heap.size<=w2.heap.size
 many:∀{f listed K w} (js:List Nat),MC ops [] js listed=true->(∀j∈js,∃(o:Oper) (R:Value->World->Prop),ops[j]? =some o∧j<n∧o.guard=none∧Ep N o.dst=true∧Jv P N K o w R∧∀v w',R v w'->G w w'∧T f (listed.setIfInBounds j true) (DE K o.dst v) w')->T (f+1) listed K w
 yld:∀{f listed K w} {o:Oper} {v:Value} (j:Nat),Gi ops n=true->ops[j]? =some o->gE ops n [] j listed=true->o.guard=none->Ep N o.dst=true->(∀wx,B wx->HX P N K o wx v)->T f (listed.setIfInBounds j true) (DE K o.dst v) w->T (f+1) listed K w
 perm:∀{f listed K K' w},(∀t,kl K' t=kl K t)->T f listed K w->T f listed K' w
def TH(P:Program)(N:Nat)(ops:Array Oper)(n:Nat)(Q:Exit->Act->World->Prop)(w0:World)(f:Nat)(listed:Array Bool)(K:KL)(w:World):Prop:=HL P N ops n (noPan Q) w0 f listed K w
def TG(P:Program)(N:Nat)(ops:Array Oper)(n:Nat)(Q:Exit->Act->World->Prop)(p:Nat->Prop)(w0:World)(f:Nat)(listed:Array Bool)(K:KL)(w:World):Prop:=Kv P N ops n (noPan Q) p w0 f listed K w
theorem MC.rdy{js:List Nat}{listed:Array Bool}(h:MC ops [] js listed=true):(Region.ready .any ops listed).isEmpty=false∧∀j∈Region.ready .any ops listed,j∈js:=by
 simp only [MC,AG,CB]at h
 exact⟨h.1,fun j E=>by simpa using CX.1 h.2 j E⟩
instance PB.h{w0:World}:PB P N ops n Bl (fun wx=>Bl w0 wx) (TH P N ops n Q w0) where
 refl:=Bl.refl
 ext:=Bl.trans
 trans:=Bl.trans
 size:=fun h=>h.size
 many:=by
  intro f listed K w js hr h inv hx a hK
  refine HL.many rfl (MC.rdy hr).1 (fun j hj=>?_) inv hx a hK
  obtain⟨o,R,hi,hin,hg,hd,he,hk⟩:=h j ((MC.rdy hr).2 j hj)
  exact HB.eff j hi (by simp [Nat.blt];omega) (by simpa using hj) hg hd he fun v w' hR=>⟨Bl.trans hx (hk v w' hR).1,(hk v w' hR).2⟩
 yld:=fun j hh hi hc hg hd h k=>HL.yld j hh hi hc hg hd (h _ (Bl.refl _)) k
 perm:=fun hk h inv hx a hK=>h inv hx a ⟨hK.df,hK.sz,fun t v e=>hK.get t v (by rw [hk];exact e)⟩
instance PB.g{p:Nat->Prop}{w0:World}:PB P N ops n (Cb p) (fun wx=>Cb p w0 wx) (TG P N ops n Q p w0) where
 refl:=Cb.refl p
 ext:=Cb.ext
 trans:=fun h k=>Cb.trans h k
 size:=fun h=>h.size
 many:=by
  intro f listed K w js hr h inv hx a hK
  refine Kv.many rfl (MC.rdy hr).1 (fun j hj=>?_) inv hx a hK
  obtain⟨o,R,hi,hin,hg,hd,he,hk⟩:=h j ((MC.rdy hr).2 j hj)
  exact sR.eff j hi (by simp [Nat.blt];omega) (by simpa using hj) hg hd he fun v w' hR=>⟨Cb.trans hx (hk v w' hR).1,(hk v w' hR).2⟩
 yld:=fun j hh hi hc hg hd h k=>Kv.yld j hh hi hc hg hd h k
 perm:=fun hk h inv hx a hK=>h inv hx a ⟨hK.df,hK.sz,fun t v e=>hK.get t v (by rw [hk];exact e)⟩
end
section
variable (P:Program) (N:Nat) (ops:Array Oper) (n:Nat) (G:World -> World -> Prop)
structure Pd where
 i:Nat
 o:Oper
 K:KL
 lo:Nat
 V:Nat->Value
 F:Nat->World->Prop
 hi:ops[i]? =some o
 hin:i<n
 hg:o.guard=none
 hd:Ep N o.dst=true
 eff:∀wx,lo<=wx.heap.size->Jv P N K o wx (fun v w'=>Bl wx w'∧w'.heap.size=wx.heap.size+1∧v=V wx.heap.size∧F wx.heap.size w')
 st:∀b w w',lo<=b->F b w->G w w'->F b w'
 lt:∀b w,F b w->b<w.heap.size
def PX(T:Nat->Array Bool->KL->World->Prop):List (Pd P N ops n G)->List (Nat×Nat)->Nat->Array Bool->KL->World->Prop
 |[],_,f,listed,K,w=>T f listed K w
 |q::qs,iv,f,listed,K,w=>q.lo<=w.heap.size->lN K q.o->gC q.K K->Zf iv w.heap.size->(∀q2∈qs,q.i≠q2.i∧fY q.o q2.o)->
  PX T qs iv (f+1) listed K w∧∀b w',Bl w w'->q.lo<=b->q.F b w'->outs iv b->PX T qs ((b,b+1)::iv) f (listed.setIfInBounds q.i true) (DE K q.o.dst (q.V b)) w'
def OBx(T:Nat->Array Bool->KL->World->Prop)(qs:List (Pd P N ops n G))(iv:List (Nat×Nat))(j f:Nat)(listed:Array Bool)(K:KL)(w:World):Prop:=
 ∃o:Oper,ops[j]? =some o∧j<n∧o.guard=none∧Ep N o.dst=true∧lN K o∧(∀q∈qs,j≠q.i∧fY q.o o)∧
  ∀wx,Bl w wx->∃R,Jv P N K o wx R∧∀v w',R v w'->G wx w'∧∃ivj,Zf ivj w'.heap.size∧(∀b,outs iv b->(b<wx.heap.size∨w'.heap.size<=b)->outs ivj b)∧PX P N ops n G T qs ivj f (listed.setIfInBounds j true) (DE K o.dst v) w'
end
section
variable {P:Program} {N:Nat} {ops:Array Oper} {n:Nat} {G:World -> World -> Prop} {B:World -> Prop} {T:Nat -> Array Bool -> KL -> World -> Prop} [hT:PB P N ops n G B T]
include hT
theorem PX.perm:∀{qs:List (Pd P N ops n G)} {iv:List (Nat×Nat)} {f:Nat} {listed:Array Bool} {K K':KL} {w:World},(∀t,kl K' t=kl K t)->PX P N ops n G T qs iv f listed K w->PX P N ops n G T qs iv f listed K' w
 |[],_,_,_,_,_,_,hk,h=>hT.perm hk h
 |q::qs,_,_,_,_,_,_,hk,h=>fun O F Y I U=>by
  obtain⟨a,b⟩:=h O (fun d E=>by rw [←hk];exact F d E) (fun t v e=>by rw [←hk];exact Y t v e) I U
  exact⟨PX.perm hk a,fun c w' W x2 Z J=>PX.perm (fun t=>by rw [Sq,Sq];split<;>simp only [hk]) (b c w' W x2 Z J)⟩
theorem PX.many:∀{qs:List (Pd P N ops n G)} {iv:List (Nat×Nat)} {f:Nat} {listed:Array Bool} {K:KL} {w:World} (js:List Nat),MC ops (qs.map fun q=>q.i) js listed=true->(∀j∈js,OBx P N ops n G T qs iv j f listed K w)->PX P N ops n G T qs iv (f+1) listed K w
 |[],iv,f,listed,K,w,js,hr,h=>hT.many js hr fun j hj=>by
  obtain⟨o,hi,Y,hg,hd,_,_,he⟩:=h j hj
  obtain⟨R,e,k⟩:=he w (Bl.refl w)
  refine⟨o,R,hi,Y,hg,hd,e,fun v w' hR=>?_⟩
  obtain⟨h1,b1,_,_,O⟩:=k v w' hR
  exact⟨h1,O⟩
 |q::qs,iv,f,listed,K,w,js,hr,h=>fun b8 a0 b4 hh b0=>by
  simp only [Gk,MC,AG]at hr
  have tl:∀Z,Z∈qs->Z∈q::qs:=fun _ h=>Dx _ h
  have c2:∀b w',Bl w w'->q.lo<=b->q.F b w'->outs iv b->PX P N ops n G T qs ((b,b+1)::iv) (f+1) (listed.setIfInBounds q.i true) (DE K q.o.dst (q.V b)) w':=by
   intro b w' hx hb hF ho
   have b7:=q.lt b w' hF
   refine PX.many js hr.2 fun j hj=>?_
   obtain⟨o,hi,Y,hg,hd,U,I,he⟩:=h j hj
   have dq:=(I q Co).2
   refine⟨o,hi,Y,hg,hd,U.put dq.symm,fun Z O=>I Z (tl Z O),fun J E=>?_⟩
   obtain⟨R,e,k⟩:=he J (Bl.trans hx E)
   refine⟨R,e.sub (gC.put a0),fun v w2 hR=>?_⟩
   obtain⟨hG,b1,W,b3,O⟩:=k v w2 hR
   have s1:=E.size
   have s2:=hT.size hG
   refine⟨hG,(b,b+1)::b1,⟨by show b+1<=w2.heap.size;omega,W⟩,fun b' b2 b6=>⟨b2.1,b3 b' b2.2 b6⟩,?_⟩
   have h3:=(O (by have:=hx.size;omega) (a0.put dq) (fun t u e=>gC.put U t u (b4 t u e)) W b0).2 b w2 (Bl.refl w2) hb (q.st b J w2 hb (q.st b w' J hb hF (hT.ext (hT.refl w') E)) hG) (b3 b ho (.inl (by omega)))
   rw [Array.setIfInBounds_comm true true (I q Co).1]at h3
   exact PX.perm (fun t=>(Xx (o:=o) (o2:=q.o) dq.symm t).symm) h3
  refine⟨PX.many (q.i::js) hr.1 fun j hj=>?_,c2⟩
  rcases DX.1 hj with rfl|hj
  ·refine⟨q.o,q.hi,q.hin,q.hg,q.hd,a0,fun Z O=>⟨(b0 Z O).1,(b0 Z O).2.symm⟩,fun J E=>?_⟩
   have hs:=E.size
   refine⟨_,(q.eff J (by omega)).sub b4,fun v w' ⟨r1,r2,r3,r4⟩=>?_⟩
   subst r3
   have b5:=hh.mono hs
   exact⟨hT.ext (hT.refl J) r1,(J.heap.size,J.heap.size+1)::iv,⟨by show J.heap.size+1<=w'.heap.size;omega,b5.mono (by omega)⟩,fun b' b2 b6=>⟨by show b'<J.heap.size∨J.heap.size+1<=b';omega,b2⟩,c2 _ w' (Bl.trans E r1) (by omega) r4 (b5.outs (Bj _))⟩
  ·obtain⟨o,hi,Y,hg,hd,U,I,he⟩:=h j hj
   have dq:=(I q Co).2
   refine⟨o,hi,Y,hg,hd,U,fun Z O=>I Z (tl Z O),fun J E=>?_⟩
   obtain⟨R,e,k⟩:=he J E
   refine⟨R,e,fun v w2 hR=>?_⟩
   obtain⟨hG,b1,W,b3,O⟩:=k v w2 hR
   have s1:=E.size
   have s2:=hT.size hG
   exact⟨hG,b1,W,b3,(O (by omega) (a0.put dq) (fun t u e=>gC.put U t u (b4 t u e)) W b0).1⟩
theorem PX.yld:∀{qs:List (Pd P N ops n G)} {iv:List (Nat×Nat)} {f:Nat} {listed:Array Bool} {K:KL} {w:World} {o:Oper} {v:Value} (j:Nat),Gi ops n=true->ops[j]? =some o->gE ops n (qs.map fun q=>q.i) j listed=true->o.guard=none->Ep N o.dst=true->lN K o->(∀q∈qs,j≠q.i∧fY q.o o)->(∀J,B J->HX P N K o J v)->PX P N ops n G T qs iv f (listed.setIfInBounds j true) (DE K o.dst v) w->PX P N ops n G T qs iv (f+1) listed K w
 |[],_,_,_,_,_,_,_,j,hh,hi,hc,hg,hd,_,_,h,k=>hT.yld j hh hi hc hg hd h k
 |q::qs,iv,f,listed,K,w,o,v,j,hh,hi,hc,hg,hd,hfr,hne,h,k=>fun Z F W I a0=>by
  simp only [Gk,gE,AG]at hc
  have Y:=(hne q Co).2
  have E:∀U∈qs,j≠U.i∧fY U.o o:=fun U O=>hne U (Dx _ O)
  have hk:=k Z (F.put Y) (fun t u e=>gC.put hfr t u (W t u e)) I a0
  refine⟨PX.yld j hh hi hc.1 hg hd hfr E h hk.1,fun b w' hx hb hF ho=>?_⟩
  refine PX.yld j hh hi hc.2 hg hd (hfr.put Y.symm) E (fun J hB=>(h J hB).sub (gC.put F)) ?_
  ·have O:=hk.2 b w' hx hb hF ho
   rw [Array.setIfInBounds_comm true true (hne q Co).1]at O
   exact PX.perm (fun t=>(Xx (o:=o) (o2:=q.o) Y.symm t).symm) O
end
/-! What the walks say -/
def UM(qs:List (Nat×Option Tmp))(i:Nat)(d:Option Tmp):Bool:=qs.all fun q=>!(Nat.beq i q.1)&&(match d,q.2 with|some a,some b=>!(Nat.beq b a)|_,_=>true)
def KY(K:KL)(d:Option Tmp):Bool:=match d with|some d=>(kl K d).isNone|none=>true
theorem KY.h{K:KL}{o:Oper}(h:KY K o.dst=true):lN K o:=fun d E=>by
 rw [E]at h;simpa [KY] using h
section
variable {P:Program} {N:Nat} {ops:Array Oper} {n:Nat} {G:World -> World -> Prop} {qs:List (Pd P N ops n G)} {o:Oper}
theorem UM.h{i:Nat}(h:UM (qs.map fun q=>(q.i,q.o.dst)) i o.dst=true):∀q∈qs,i≠q.i∧fY q.o o:=fun q I=>by
 have:=CX.1 h (q.i,q.o.dst) (ED.2 ⟨q,I,rfl⟩)
 simp only [AG,CB]at this
 refine⟨fun e=>?_,fun d J e e2 g=>?_⟩
 ·have E:=this.1
  rw [e]at E
  rw [Nat.beq_refl]at E;cases E
 ·have F:=this.2
  rw [e,e2]at F
  subst g
  simp [Nat.beq_refl]at F
end
section
variable {P:Program} {N:Nat} {ops:Array Oper} {n:Nat} {G:World -> World -> Prop} {B:World -> Prop} {T:Nat -> Array Bool -> KL -> World -> Prop} [hT:PB P N ops n G B T] {qs:List (Pd P N ops n G)} {iv:List (Nat × Nat)} {f:Nat} {listed:Array Bool} {K:KL} {w:World} {o:Oper} {Q:Exit -> Act -> World -> Prop}
include hT
theorem PXy{v:Value}(j:Nat)(I:Gi ops n=true)(hi:ops[j]? =some o)(hc:gE ops n (qs.map fun q=>q.i) j listed=true)(h:∀E,B E->HX P N K o E v)(k:PX P N ops n G T qs iv f (listed.setIfInBounds j true) (DE K o.dst v) w)
 (F:o.guard=none:=by rfl) (hd:Ep N o.dst=true:=by rfl) (hf:KY K o.dst=true:=by rfl) (hq:UM (qs.map fun q=>(q.i,q.o.dst)) j o.dst=true:=by rfl):PX P N ops n G T qs iv (f+1) listed K w:=
 PX.yld j I hi hc F hd (KY.h hf) (UM.h hq) h k
theorem Qp{q:Pd P N ops n G}(j:Nat)(hi:ops[j]? =some o)(hc:MC ops ((q::qs).map fun q=>q.i) [j] listed=true)
 (h:∀E,Bl w E->∃R,Jv P N K o E R∧∀v w',R v w'->G E w'∧PX P N ops n G T (q::qs) ((E.heap.size,w'.heap.size)::iv) f (listed.setIfInBounds j true) (DE K o.dst v) w')
 (I:Nat.blt j n=true:=by rfl) (hg:o.guard=none:=by rfl) (hd:Ep N o.dst=true:=by rfl) (hf:KY K o.dst=true:=by rfl) (hq:UM ((q::qs).map fun q=>(q.i,q.o.dst)) j o.dst=true:=by rfl):PX P N ops n G T (q::qs) iv (f+1) listed K w:=fun F O h3 W h5=>
 PX.many [j] hc (fun Z J=>by
  obtain rfl:Z=j:=by simpa using J
  refine⟨o,hi,by have h0:=I;simp [Nat.blt]at h0;omega,hg,hd,KY.h hf,UM.h hq,fun E Y=>?_⟩
  obtain⟨R,he,hk⟩:=h E Y
  refine⟨R,he,fun v w' hR=>?_⟩
  obtain⟨F,O⟩:=hk v w' hR
  have s:=hT.size F
  have s2:=Y.size
  exact⟨F,(E.heap.size,w'.heap.size)::iv,⟨Bj _,W.mono (by omega)⟩,fun b hb U=>⟨U,hb⟩,O⟩) F O h3 W h5
theorem oD{q:Pd P N ops n G}{o2:Oper}(j J:Nat)(hi:ops[j]? =some o)(hi2:ops[J]? =some o2)(hc:MC ops ((q::qs).map fun q=>q.i) [j,J] listed=true)
 (h:∀E,Bl w E->∃R,Jv P N K o E R∧∀v w',R v w'->G E w'∧PX P N ops n G T (q::qs) ((E.heap.size,w'.heap.size)::iv) f (listed.setIfInBounds j true) (DE K o.dst v) w')
 (O:∀E,Bl w E->∃R,Jv P N K o2 E R∧∀v w',R v w'->G E w'∧PX P N ops n G T (q::qs) ((E.heap.size,w'.heap.size)::iv) f (listed.setIfInBounds J true) (DE K o2.dst v) w')
 (W:Nat.blt j n=true:=by rfl) (hg:o.guard=none:=by rfl) (hd:Ep N o.dst=true:=by rfl) (hf:KY K o.dst=true:=by rfl) (hq:UM ((q::qs).map fun q=>(q.i,q.o.dst)) j o.dst=true:=by rfl)
 (hin2:Nat.blt J n=true:=by rfl) (hg2:o2.guard=none:=by rfl) (hd2:Ep N o2.dst=true:=by rfl) (hf2:KY K o2.dst=true:=by rfl) (hq2:UM ((q::qs).map fun q=>(q.i,q.o.dst)) J o2.dst=true:=by rfl):PX P N ops n G T (q::qs) iv (f+1) listed K w:=fun F h3 h4 Z h5=>
 PX.many [j,J] hc (SL (by
  refine⟨o,hi,by have h0:=W;simp [Nat.blt]at h0;omega,hg,hd,KY.h hf,UM.h hq,fun E U=>?_⟩
  obtain⟨R,Y,hk⟩:=h E U
  refine⟨R,Y,fun v w' hR=>?_⟩
  obtain⟨F,O⟩:=hk v w' hR
  have s:=hT.size F
  have s2:=U.size
  exact⟨F,(E.heap.size,w'.heap.size)::iv,⟨Bj _,Z.mono (by omega)⟩,fun b hb I=>⟨I,hb⟩,O⟩) (by
  refine⟨o2,hi2,by have h0:=hin2;simp [Nat.blt]at h0;omega,hg2,hd2,KY.h hf2,UM.h hq2,fun E U=>?_⟩
  obtain⟨R,Y,hk⟩:=O E U
  refine⟨R,Y,fun v w' hR=>?_⟩
  obtain⟨F,O⟩:=hk v w' hR
  have s:=hT.size F
  have s2:=U.size
  exact⟨F,(E.heap.size,w'.heap.size)::iv,⟨Bj _,Z.mono (by omega)⟩,fun b hb I=>⟨I,hb⟩,O⟩)) F h3 h4 Z h5
theorem zL(i:Nat)(V:Nat->Value)(F:Nat->World->Prop)(hi:ops[i]? =some o)(eff:∀I,w.heap.size<=I.heap.size->Jv P N K o I (fun v w'=>Bl I w'∧w'.heap.size=I.heap.size+1∧v=V I.heap.size∧F I.heap.size w'))(st:∀b J w',w.heap.size<=b->F b J->G J w'->F b w')(lt:∀b J,F b J->b<J.heap.size)
 (hh:Zf iv w.heap.size) (E:Nat.blt i n=true) (U:o.guard=none) (O:Ep N o.dst=true) (hf:KY K o.dst=true) (W:UM (qs.map fun q=>(q.i,q.o.dst)) i o.dst=true)
 (h:∀E U O,PX P N ops n G T (⟨i,o,K,w.heap.size,V,F,hi,E,U,O,eff,st,lt⟩::qs) iv f listed K w):PX P N ops n G T qs iv (f+1) listed K w:=
 (h (by have h0:=E;simp [Nat.blt]at h0;omega) U O (Bj _) (KY.h hf) (fun _ _ e=>e) hh fun Z Y=>⟨(UM.h W Z Y).1,(UM.h W Z Y).2.symm⟩).1
theorem wJ{q:Pd P N ops n G}(i:Nat)(V:Nat->Value)(F:Nat->World->Prop)(hi:ops[i]? =some o)(eff:∀I,w.heap.size<=I.heap.size->Jv P N K o I (fun v w'=>Bl I w'∧w'.heap.size=I.heap.size+1∧v=V I.heap.size∧F I.heap.size w'))(Y:∀b J w',w.heap.size<=b->F b J->G J w'->F b w')(lt:∀b J,F b J->b<J.heap.size)
 (E:Nat.blt i n=true) (U:o.guard=none) (O:Ep N o.dst=true) (Z:KY K o.dst=true) (hq:UM ((q::qs).map fun q=>(q.i,q.o.dst)) i o.dst=true)
 (h:∀E U O,PX P N ops n G T (⟨i,o,K,w.heap.size,V,F,hi,E,U,O,eff,Y,lt⟩::q::qs) iv f listed K w):PX P N ops n G T (q::qs) iv (f+1) listed K w:=fun h1 h2 h3 W h5=>
 zL i V F hi eff Y lt W E U O Z hq h h1 h2 h3 W h5
theorem PXd{q:Pd P N ops n G}(hc:MC ops (qs.map fun q=>q.i) [q.i] listed=true)(k:∀b E,Bl w E->q.lo<=b->q.F b E->outs iv b->PX P N ops n G T qs ((b,b+1)::iv) f (listed.setIfInBounds q.i true) (DE K q.o.dst (q.V b)) E):PX P N ops n G T (q::qs) iv f listed K w:=fun b0 W U hh O=>
 ⟨PX.many [q.i] hc fun j hj=>by
  obtain rfl:j=q.i:=by simpa using hj
  refine⟨q.o,q.hi,q.hin,q.hg,q.hd,W,fun q2 Z=>⟨(O q2 Z).1,(O q2 Z).2.symm⟩,fun E I=>?_⟩
  have hs:=I.size
  refine⟨_,(q.eff E (by omega)).sub U,fun v w' ⟨r1,r2,r3,r4⟩=>?_⟩
  subst r3
  have J:=hh.mono hs
  exact⟨hT.ext (hT.refl E) r1,(E.heap.size,E.heap.size+1)::iv,⟨by show E.heap.size+1<=w'.heap.size;omega,J.mono (by omega)⟩,fun b' Y a0=>⟨by show b'<E.heap.size∨E.heap.size+1<=b';omega,Y⟩,k _ w' (Bl.trans I r1) (by omega) r4 (J.outs (Bj _))⟩,k⟩
end
section
variable {P:Program} {N:Nat} {ops:Array Oper} {n:Nat} {iv:List (Nat × Nat)} {f:Nat} {listed:Array Bool} {K:KL} {w:World} {o:Oper} {Q:Exit -> Act -> World -> Prop}
theorem Pk{t:TypeId}{zs:List Value}(ho:o.op= .alloc t)(hz:GQ P t=some zs)(E:World):Jv P N K o E (fun v w'=>Bl E w'∧w'.heap.size=E.heap.size+1∧v= .pointer (some ⟨E.heap.size,0,none⟩)∧Bu w' E.heap.size zs t):=
 (Aj ho hz).mono fun v w' ⟨b,e,e1,e2,F,I⟩=>by subst e1;exact⟨F,e2,e,I⟩
theorem UE{α:Type}{c:FC α}{t l c2 zs sz by' m m' k z kd kd' e}(ho:o.op= .makeSlice t l c2)(hu:P.underlying t=some (.slice e))(hin0:Ft P e=some (zs,sz,by'))(hl:ES K l=some (.int kd m))(hc:ES K c2=some (.int kd' m'))(hmm:m'=m)
 (hk:QS m by'=some k) (hsz:sz=c.n) (hpos:Nat.blt 0 c.n=true) (hz:∀w,c.rep w (Iv 0 0) z zs) (E:World):Jv P N K o E (fun v w'=>Bl E w'∧w'.heap.size=E.heap.size+1∧v= .slice (some ⟨E.heap.size,0,none⟩) k k∧AS c w' E.heap.size (Iv 0 0) e (List.replicate k z) (.slice (some ⟨E.heap.size,0,none⟩) k k)):=
 (GI ho hu hin0 hl hc hmm hk hsz hpos hz).mono fun v w' ⟨g,I,e1,e2,F,J⟩=>by subst e1;subst I;exact⟨F,e2,rfl,J⟩
theorem Bu.extA{zs:List Value}{t:TypeId}(b:Nat)(E w':World)(_:w.heap.size<=b)(h:Bu E b zs t)(F:Bl E w'):Bu w' b zs t:=h.ext F
theorem Bu.butA{p:Nat->Prop}{zs:List Value}{t:TypeId}(F:∀k,p k->k<w.heap.size)(b:Nat)(E w':World)(J:w.heap.size<=b)(h:Bu E b zs t)(I:Cb p E w'):Bu w' b zs t:=h.but I fun k hk=>by have:=F k hk;omega
theorem AS.extA{α:Type}{c:FC α}[Fy c]{e:TypeId}{k:Nat}{xs:List α}(b:Nat)(E w':World)(_:w.heap.size<=b)(h:AS c E b (Iv 0 0) e xs (.slice (some ⟨b,0,none⟩) k k))(F:Bl E w'):AS c w' b (Iv 0 0) e xs (.slice (some ⟨b,0,none⟩) k k):=h.ext F
abbrev kW(b:Nat):Value:=.pointer (some ⟨b,0,none⟩)
abbrev lH(k b:Nat):Value:=.slice (some ⟨b,0,none⟩) k k
theorem ZZ{w0:World}{t:TypeId}{zs:List Value}(i:Nat)(hi:ops[i]? =some o)(ho:o.op= .alloc t)(hz:GQ P t=some zs)
 (h:∀eff O lt E I F,PX P N ops n Bl (TH P N ops n Q w0) [⟨i,o,K,w.heap.size,kW,fun b w'=>Bu w' b zs t,hi,E,I,F,eff,O,lt⟩] [] f listed K w)
 (E:Nat.blt i n=true:=by rfl) (I:o.guard=none:=by rfl) (F:Ep N o.dst=true:=by rfl) (hf:KY K o.dst=true:=by rfl):HL P N ops n (noPan Q) w0 (f+1) listed K w:=
 (zL (T:=TH P N ops n Q w0) (qs:=[]) (iv:=[]) i _ _ hi (fun J _=>Pk ho hz J) Bu.extA (fun b U h=>Bu.lt h) trivial E I F hf rfl (h _ _ _))
theorem PaG{p:Nat->Prop}{w0:World}{t:TypeId}{zs:List Value}(i:Nat)(hi:ops[i]? =some o)(ho:o.op= .alloc t)(hz:GQ P t=some zs)(J:∀k,p k->k<w.heap.size)
 (h:∀eff U lt E I F,PX P N ops n (Cb p) (TG P N ops n Q p w0) [⟨i,o,K,w.heap.size,kW,fun b w'=>Bu w' b zs t,hi,E,I,F,eff,U,lt⟩] [] f listed K w)
 (E:Nat.blt i n=true:=by rfl) (I:o.guard=none:=by rfl) (F:Ep N o.dst=true:=by rfl) (hf:KY K o.dst=true:=by rfl):Kv P N ops n (noPan Q) p w0 (f+1) listed K w:=
 (zL (T:=TG P N ops n Q p w0) (qs:=[]) (iv:=[]) i _ _ hi (fun O _=>Pk ho hz O) (Bu.butA J) (fun b W h=>Bu.lt h) trivial E I F hf rfl (h _ _ _))
theorem nX{w0:World}{q:Pd P N ops n Bl}{qs:List (Pd P N ops n Bl)}{t:TypeId}{zs:List Value}(i:Nat)(hi:ops[i]? =some o)(ho:o.op= .alloc t)(hz:GQ P t=some zs)
 (h:∀eff O lt E I F,PX P N ops n Bl (TH P N ops n Q w0) (⟨i,o,K,w.heap.size,kW,fun b w'=>Bu w' b zs t,hi,E,I,F,eff,O,lt⟩::q::qs) iv f listed K w)
 (E:Nat.blt i n=true:=by rfl) (I:o.guard=none:=by rfl) (F:Ep N o.dst=true:=by rfl) (hf:KY K o.dst=true:=by rfl) (hq:UM ((q::qs).map fun q=>(q.i,q.o.dst)) i o.dst=true:=by rfl):PX P N ops n Bl (TH P N ops n Q w0) (q::qs) iv (f+1) listed K w:=
 wJ (T:=TH P N ops n Q w0) i _ _ hi (fun J _=>Pk ho hz J) Bu.extA (fun b U h=>Bu.lt h) E I F hf hq (h _ _ _)
section
variable {α:Type} {c:FC α} [Fy c] {t e:TypeId} {l c2:Operand} {zs:List Value} {sz by' k:Nat} {m m':Int} {kd kd':IntKind} {z:α} (i:Nat) (hi:ops[i]? = some o) (ho:o.op = .makeSlice t l c2) (hu:P.underlying t = some (.slice e)) (hin0:Ft P e = some (zs,sz,by')) (hl:ES K l = some (.int kd m)) (hc:ES K c2 = some (.int kd' m')) (hmm:m' = m) (hk:QS m by' = some k) (hsz:sz = c.n) (hpos:Nat.blt 0 c.n = true) (hz:∀ w,c.rep w (Iv 0 0) z zs)
include ho hu hin0 hl hc hmm hk hsz hpos hz
theorem PmH{w0:World}(h:∀eff O lt E I F,PX P N ops n Bl (TH P N ops n Q w0) [⟨i,o,K,w.heap.size,lH k,fun b w'=>AS c w' b (Iv 0 0) e (List.replicate k z) (lH k b),hi,E,I,F,eff,O,lt⟩] [] f listed K w)
 (E:Nat.blt i n=true:=by rfl) (I:o.guard=none:=by rfl) (F:Ep N o.dst=true:=by rfl) (hf:KY K o.dst=true:=by rfl):HL P N ops n (noPan Q) w0 (f+1) listed K w:=
 (zL (T:=TH P N ops n Q w0) (qs:=[]) (iv:=[]) i _ _ hi (fun J _=>UE ho hu hin0 hl hc hmm hk hsz hpos hz J) AS.extA (fun b U h=>(h.blk b rfl).2) trivial E I F hf rfl (h _ _ _))
theorem nR{w0:World}{q:Pd P N ops n Bl}{qs:List (Pd P N ops n Bl)}(h:∀eff O lt E I F,PX P N ops n Bl (TH P N ops n Q w0) (⟨i,o,K,w.heap.size,lH k,fun b w'=>AS c w' b (Iv 0 0) e (List.replicate k z) (lH k b),hi,E,I,F,eff,O,lt⟩::q::qs) iv f listed K w)
 (E:Nat.blt i n=true:=by rfl) (I:o.guard=none:=by rfl) (F:Ep N o.dst=true:=by rfl) (hf:KY K o.dst=true:=by rfl) (hq:UM ((q::qs).map fun q=>(q.i,q.o.dst)) i o.dst=true:=by rfl):PX P N ops n Bl (TH P N ops n Q w0) (q::qs) iv (f+1) listed K w:=
 wJ (T:=TH P N ops n Q w0) i _ _ hi (fun J _=>UE ho hu hin0 hl hc hmm hk hsz hpos hz J) AS.extA (fun b U h=>(h.blk b rfl).2) E I F hf hq (h _ _ _)
end
theorem Tp{w0:World}{q:Pd P N ops n Bl}{qs:List (Pd P N ops n Bl)}{v:Value}(j:Nat)(F:Gi ops n=true)(hi:ops[j]? =some o)(hc:gE ops n ((q::qs).map fun q=>q.i) j listed=true)(h:HX P N K o w0 v)(k:PX P N ops n Bl (TH P N ops n Q w0) (q::qs) iv f (listed.setIfInBounds j true) (DE K o.dst v) w)
 (J:o.guard=none:=by rfl) (hd:Ep N o.dst=true:=by rfl) (hf:KY K o.dst=true:=by rfl) (hq:UM ((q::qs).map fun q=>(q.i,q.o.dst)) j o.dst=true:=by rfl):PX P N ops n Bl (TH P N ops n Q w0) (q::qs) iv (f+1) listed K w:=
 PXy (T:=TH P N ops n Q w0) j F hi hc (fun U O a I w' E=>h a I w' (Bl.trans O E)) k J hd hf hq
theorem AaG{w0:World}{q:Pd P N ops n Bl}{qs:List (Pd P N ops n Bl)}{Ψ:Value->Prop}(j:Nat)(J:Gi ops n=true)(hi:ops[j]? =some o)(hc:gE ops n ((q::qs).map fun q=>q.i) j listed=true)(h:YE P N K o w0 Ψ)(k:∀v,Ψ v->PX P N ops n Bl (TH P N ops n Q w0) (q::qs) iv f (listed.setIfInBounds j true) (DE K o.dst v) w)
 (F:o.guard=none:=by rfl) (hd:Ep N o.dst=true:=by rfl) (hf:KY K o.dst=true:=by rfl) (hq:UM ((q::qs).map fun q=>(q.i,q.o.dst)) j o.dst=true:=by rfl):PX P N ops n Bl (TH P N ops n Q w0) (q::qs) iv (f+1) listed K w:=by
 obtain⟨v,E,I⟩:=h;exact Tp j J hi hc E (k v I) F hd hf hq
theorem St{w0:World}{p:Nat->Prop}{q:Pd P N ops n (Cb p)}{qs:List (Pd P N ops n (Cb p))}{v:Value}(j:Nat)(I:Gi ops n=true)(hi:ops[j]? =some o)(hc:gE ops n ((q::qs).map fun q=>q.i) j listed=true)(h:∀E,Cb p w0 E->HX P N K o E v)(k:PX P N ops n (Cb p) (TG P N ops n Q p w0) (q::qs) iv f (listed.setIfInBounds j true) (DE K o.dst v) w)
 (F:o.guard=none:=by rfl) (hd:Ep N o.dst=true:=by rfl) (hf:KY K o.dst=true:=by rfl) (hq:UM ((q::qs).map fun q=>(q.i,q.o.dst)) j o.dst=true:=by rfl):PX P N ops n (Cb p) (TG P N ops n Q p w0) (q::qs) iv (f+1) listed K w:=
 PXy (T:=TG P N ops n Q p w0) j I hi hc h k F hd hf hq
theorem jM{w0:World}{p:Nat->Prop}{q:Pd P N ops n (Cb p)}{qs:List (Pd P N ops n (Cb p))}{Ψ:Value->Prop}(j:Nat)(F:Gi ops n=true)(hi:ops[j]? =some o)(hc:gE ops n ((q::qs).map fun q=>q.i) j listed=true)(h:YA P N K o Ψ)(k:∀v,Ψ v->PX P N ops n (Cb p) (TG P N ops n Q p w0) (q::qs) iv f (listed.setIfInBounds j true) (DE K o.dst v) w)
 (O:o.guard=none:=by rfl) (hd:Ep N o.dst=true:=by rfl) (hf:KY K o.dst=true:=by rfl) (hq:UM ((q::qs).map fun q=>(q.i,q.o.dst)) j o.dst=true:=by rfl):PX P N ops n (Cb p) (TG P N ops n Q p w0) (q::qs) iv (f+1) listed K w:=by
 obtain⟨v,I,E⟩:=h;exact St j F hi hc (fun J _=>I J) (k v E) O hd hf hq
theorem PX.mapT{G:World->World->Prop}{T I:Nat->Array Bool->KL->World->Prop}(hm:∀f listed K E,Bl w E->T f listed K E->I f listed K E):∀{qs:List (Pd P N ops n G)} {iv:List (Nat×Nat)} {f:Nat} {listed:Array Bool} {K:KL} {E:World},Bl w E->PX P N ops n G T qs iv f listed K E->PX P N ops n G I qs iv f listed K E
 |[],_,_,_,_,_,hx,h=>hm _ _ _ _ hx h
 |q::qs,_,_,_,_,_,hx,h=>fun O F Y J U=>⟨PX.mapT hm hx (h O F Y J U).1,fun b w3 W x2 x3 Z=>PX.mapT hm (Bl.trans hx W) ((h O F Y J U).2 b w3 W x2 x3 Z)⟩
theorem AcG{w0:World}{qs:List (Pd P N ops n Bl)}(e:Bl w0 w)(h:PX P N ops n Bl (TH P N ops n Q w) qs iv f listed K w):PX P N ops n Bl (TH P N ops n Q w0) qs iv f listed K w:=
 PX.mapT (fun f listed K W O h E F a I=>FP.mono (fun U J=>Bl.trans e J) _ _ _ _ (h E O a I)) (Bl.refl w) h
theorem lD{p:Nat->Prop}{w0:World}{qs:List (Pd P N ops n (Cb p))}(e:Cb p w0 w)(h:PX P N ops n (Cb p) (TG P N ops n Q p w) qs iv f listed K w):PX P N ops n (Cb p) (TG P N ops n Q p w0) qs iv f listed K w:=
 PX.mapT (fun f listed K W O h E F a I=>FP.mono (fun U J=>Cb.trans e J) _ _ _ _ (h E (Cb.ext (Cb.refl p w) O) a I)) (Bl.refl w) h
/-! what was put off is done at last: a box, a slice; 1: and others are put off still -/
section
variable {K0:KL} {i lo k:Nat} {o0:Oper} {t e:TypeId} {zs:List Value} {α:Type} {c:FC α} {z:α}
theorem dG{G:World->World->Prop}{B:World->Prop}{T:Nat->Array Bool->KL->World->Prop}[hT:PB P N ops n G B T]{qs:List (Pd P N ops n G)}{hi hin hg hd eff st lt}(hc:MC ops (qs.map fun q=>q.i) [i] listed=true)(k:∀b E,Bl w E->(lo<=b∧b<E.heap.size)->Bu E b zs t->outs iv b->PX P N ops n G T qs ((b,b+1)::iv) f (listed.setIfInBounds i true) (DE K o0.dst (kW b)) E):PX P N ops n G T (⟨i,o0,K0,lo,kW,fun b w'=>Bu w' b zs t,hi,hin,hg,hd,eff,st,lt⟩::qs) iv f listed K w:=
 PXd hc fun b E O I F J=>k b E O ⟨I,Bu.lt F⟩ F J
theorem iW{G:World->World->Prop}{B:World->Prop}{T:Nat->Array Bool->KL->World->Prop}[hT:PB P N ops n G B T]{qs:List (Pd P N ops n G)}{hi hin hg hd eff st lt}(hc:MC ops (qs.map fun q=>q.i) [i] listed=true)(kk:∀b u E,Bl w E->(lo<=b∧b<E.heap.size)->u= .slice (some ⟨b,0,none⟩) k k->AS c E b (Iv 0 0) e (List.replicate k z) u->outs iv b->PX P N ops n G T qs ((b,b+1)::iv) f (listed.setIfInBounds i true) (DE K o0.dst u) E):PX P N ops n G T (⟨i,o0,K0,lo,lH k,fun b w'=>AS c w' b (Iv 0 0) e (List.replicate k z) (lH k b),hi,hin,hg,hd,eff,st,lt⟩::qs) iv f listed K w:=
 PXd hc fun b E O I F J=>kk b _ E O ⟨I,(F.blk b rfl).2⟩ rfl F J
theorem TK{w0:World}{hi hin hg hd eff st lt}(hc:MC ops [] [i] listed=true)(k:∀b E,Bl w E->(lo<=b∧b<E.heap.size)->Bu E b zs t->outs iv b->HL P N ops n (noPan Q) w0 f (listed.setIfInBounds i true) (DE K o0.dst (kW b)) E):PX P N ops n Bl (TH P N ops n Q w0) [⟨i,o0,K0,lo,kW,fun b w'=>Bu w' b zs t,hi,hin,hg,hd,eff,st,lt⟩] iv f listed K w:=dG (T:=TH P N ops n Q w0) (qs:=[]) hc k
theorem AbW{w0:World}{hi hin hg hd eff st lt}(hc:MC ops [] [i] listed=true)(kk:∀b u E,Bl w E->(lo<=b∧b<E.heap.size)->u= .slice (some ⟨b,0,none⟩) k k->AS c E b (Iv 0 0) e (List.replicate k z) u->outs iv b->HL P N ops n (noPan Q) w0 f (listed.setIfInBounds i true) (DE K o0.dst u) E):PX P N ops n Bl (TH P N ops n Q w0) [⟨i,o0,K0,lo,lH k,fun b w'=>AS c w' b (Iv 0 0) e (List.replicate k z) (lH k b),hi,hin,hg,hd,eff,st,lt⟩] iv f listed K w:=iW (T:=TH P N ops n Q w0) (qs:=[]) hc kk
theorem jQ{p:Nat->Prop}{w0:World}{hi hin hg hd eff st lt}(hc:MC ops [] [i] listed=true)(k:∀b E,Bl w E->(lo<=b∧b<E.heap.size)->Bu E b zs t->outs iv b->Kv P N ops n (noPan Q) p w0 f (listed.setIfInBounds i true) (DE K o0.dst (kW b)) E):PX P N ops n (Cb p) (TG P N ops n Q p w0) [⟨i,o0,K0,lo,kW,fun b w'=>Bu w' b zs t,hi,hin,hg,hd,eff,st,lt⟩] iv f listed K w:=dG (T:=TG P N ops n Q p w0) (qs:=[]) hc k
end
end
end Go.Eng
namespace Go.Eng
open Go Go.RowKit
/-! ## An element is put into a slice: slices.Insert -/
def RL{α:Type}(c:FC α)(w:World)(S:Nat->Prop)(xs:List α)(cs:List Value):Prop:=cs.length=xs.length*c.n∧∀i x,xs[i]? =some x->c.rep w S x (CG cs c.n i)
section
variable {α:Type} {c:FC α} {w w':World} {S:Nat -> Prop} {xs ys:List α} {cs ds:List Value}
theorem Tz{n p j:Nat}(h:cs.length=p*n)(E:j<p):CG (cs++ds) n j=CG cs n j:=by
 have:(j+1)*n<=p*n:=CC _ E
 rw [Cy]at this
 apply Cl
 intro q
 by_cases hq:q<n
 ·rw [DM hq,DM hq,BA (by omega)]
 ·rw [BM (by simp [CG];omega),BM (by simp [CG];omega)]
theorem SQ{n p j:Nat}(h:cs.length=p*n):CG (cs++ds) n (p+j)=CG ds n j:=by
 apply Cl
 intro q
 by_cases hq:q<n
 ·rw [DM hq,DM hq,BI (by rw [h,Cy];omega)]
  congr 1
  rw [h,Cy];omega
 ·rw [BM (by simp [CG];omega),BM (by simp [CG];omega)]
theorem RL.app(h:RL c w S xs cs)(k:RL c w S ys ds):RL c w S (xs++ys) (cs++ds):=by
 refine⟨by simp [h.1,k.1,Cy],fun i x E=>?_⟩
 by_cases hi:i<xs.length
 ·rw [BA hi]at E
  rw [Tz h.1 hi];exact h.2 i x E
 ·rw [BI (by omega)]at E
  obtain⟨j,rfl⟩:∃j,i=xs.length+j:=⟨i-xs.length,by omega⟩
  rw [SQ h.1]
  exact k.2 j x (by rwa [show xs.length+j-xs.length=j by omega]at E)
theorem RL.take(h:RL c w S xs cs){k:Nat}(hk:k<=xs.length):RL c w S (xs.take k) (cs.take (k*c.n)):=by
 have hm:k*c.n<=xs.length*c.n:=CC _ hk
 have hl:(cs.take (k*c.n)).length=k*c.n:=by rw [EC,h.1];omega
 refine⟨by rw [hl,EC];congr 1;omega,fun i x E=>?_⟩
 rw [Cm]at E
 split at E
 ·rename_i hi
  have:=h.2 i x E
  rw [←DZ (k*c.n) cs,Tz hl hi]at this
  exact this
 ·cases E
theorem RL.drop(h:RL c w S xs cs){k:Nat}(hk:k<=xs.length):RL c w S (xs.drop k) (cs.drop (k*c.n)):=by
 have hm:k*c.n<=xs.length*c.n:=CC _ hk
 have hl:(cs.take (k*c.n)).length=k*c.n:=by rw [EC,h.1];omega
 refine⟨by rw [List.length_drop,List.length_drop,h.1,Nat.sub_mul],fun i x E=>?_⟩
 rw [Cv]at E
 have:=h.2 (k+i) x E
 rw [←DZ (k*c.n) cs,SQ hl]at this
 exact this
theorem RL.any[Fy c](h:RL c w S xs cs){F:World}{S2:Nat->Prop}:RL c F S2 xs cs:=⟨h.1,fun i x E=>Fy.any (h.2 i x E)⟩
theorem RL.one(h:RL c w S xs cs)(F:0<c.n):∀v∈cs,v.oneCell'=true:=fun v I=>by
 obtain⟨q,E,rfl⟩:=DB I
 have hi:q/c.n<xs.length:=Nat.div_lt_of_lt_mul (by rw [Nat.mul_comm,←h.1];exact E)
 have J:=h.2 _ _ (AK hi)
 have:=CX.1 (c.one J)
 refine this _ (Dw (i:=q%c.n) ?_)
 rw [DM (Nat.mod_lt _ F),Nat.mul_comm,Nat.div_add_mod]
 exact AK E
theorem RL.row{B:Nat}{e g E:Nat}{F:Array Value}(O:B<=g)(I:w.heap[g]? =some (.cells F e (0,0)))(U:F.size=E*c.n)(W:xs.length<=E)(hc:E<=maxLen)(J:F.toList.take (xs.length*c.n)=cs)(h:RL c w S xs cs):AS c w B S e xs (.slice (some ⟨g,0,none⟩) xs.length E):=
 ⟨cs,⟨h.1,.inr ⟨g,E,F,rfl,O,I,W,hc,U,J⟩⟩,h.2⟩
end
section
variable {P:Program} {N:Nat} {α:Type} {c:FC α} {w:World} {B:Nat} {S:Nat -> Prop} {e:TypeId} {xs:List α} {v:Value} {o:Oper} {K:KL}
def YM(w:World)(v:Value):Prop:=∀g,v.ownBlock=some g->∃(cur:Array Value) (t:TypeId),w.heap[g]? =some (.cells cur t (0,0))
theorem AS.plain(h:AS c w B S e xs v):YM w v:=fun g F=>by
 obtain⟨cs,⟨_,⟨rfl,_⟩|⟨O,J,E,rfl,_,I,_⟩⟩,_⟩:=h
 ·cases F
 ·obtain rfl:O=g:=Ai F
  exact⟨E,e,I⟩
theorem Jv.run{R:Value->World->Prop}(h:∀a,Kn N K a->∃v' w',(execOp a.eval o).run P w= .ok (.value v') w'∧R v' w'):Jv P N K o w R:=by
 intro a E Kt Q hk
 obtain⟨v',w',I,F⟩:=h a E
 unfold Oper.wp
 rw [I]
 exact hk _ _ F
end
end Go.Eng
namespace Go.Eng
open Go Go.RowKit
/-! ## Structs whose last field is a struct of plain fields, compared -/
section
variable {P:Program} {N:Nat} {K:KL} {o:Oper} {w:World}
end
/-! ## What stands behind an if, walked once -/
def jn{κ β:Type}(x:κ->β)(k:κ):β:=x k
theorem Wb{κ ρ:Type}{x:κ->Option ρ}{k:κ}{r:ρ}(h:jn x k=some r):∃E,E=k∧x E=some r:=⟨k,rfl,h⟩
theorem WC.joinD{P:Program}{N:Nat}{Q0:Exit->Act->World->Prop}{fs:List Frame}{K:KL}{w:World}{c:Code}(R:Act->World->Prop)(E:WC P N c (IQ P (fun e a w=>e= .normal∧R a w) []) K w)(F:∀a w',R a w'->IQ P Q0 fs .normal a w'):WC P N c (IQ P Q0 fs) K w:=WC.join R E F
end Go.Eng
namespace Go.Eng
open Go Go.RowKit
/-! ## A table is written into what is only read -/
inductive fQ(w':World)(T:Nat->Prop)(Z:Prop):Value->Value->Prop
 |refl (u:Value):fQ w' T Z u u
 |sl (a:Option Addr) (n c:Nat) (v:Value) (xs:List Int) (hz:Z->xs.length<=1048576) (h:Ae (CR .i64) w' T xs v):fQ w' T Z (.slice a n c) v
def Tu(w':World)(T:Nat->Prop)(Z:Prop)(us vs:List Value):Prop:=us.length=vs.length∧∀(j:Nat) (u v:Value),us[j]? =some u->vs[j]? =some v->fQ w' T Z u v
theorem Tu.refl(w':World)(T:Nat->Prop)(Z:Prop)(us:List Value):Tu w' T Z us us:=⟨rfl,fun j u v h k=>by rw [h]at k;obtain rfl:=Ai k;exact .refl _⟩
theorem Tu.one{w':World}{T:Nat->Prop}{Z:Prop}{u:Value}{vs:List Value}(h:Tu w' T Z [u] vs):∃v,vs=[v]∧fQ w' T Z u v:=by
 obtain⟨v,rfl⟩:=Fp.1 h.1.symm
 exact⟨v,rfl,h.2 0 u v rfl rfl⟩
theorem Tu.app{w':World}{T:Nat->Prop}{Z:Prop}{us ts vs:List Value}(h:Tu w' T Z (us++ts) vs):∃I E,vs=I++E∧Tu w' T Z us I∧Tu w' T Z ts E:=by
 obtain⟨U,O⟩:=h
 rw [CA]at U
 refine⟨vs.take us.length,vs.drop us.length,(DZ _ _).symm,⟨by simp;omega,fun j u v hu F=>?_⟩,⟨by simp;omega,fun j u v hu F=>?_⟩⟩
 ·have J:=(AR.1 hu).1
  rw [Cm,BE J]at F
  exact O j u v (by rw [BA J];exact hu) F
 ·rw [Cv]at F
  exact O (us.length+j) u v (by rw [BI (by omega),FY];exact hu) F
structure sW(b:Nat)(T:Nat->Prop)(Z:Prop)(w w':World):Prop where
 upd:JF b w w'
 cell:∀d off u,w.cell? ⟨d,off,none⟩=some u->∃u',w'.cell? ⟨d,off,none⟩=some u'∧fQ w' T Z u u'
 froz:∀d off,w.frozen? ⟨d,off,none⟩=false->w'.frozen? ⟨d,off,none⟩=false
 row:∀cur ty fz,w.heap[b]? =some (.cells cur ty fz)->∃cur',w'.heap[b]? =some (.cells cur' ty fz)∧cur'.size=cur.size
class uL{α:Type}(c:FC α)(p:outParam (α->Prop)):Prop where
 sim:∀{b:Nat} {w w':World} {S T:Nat->Prop} {Z:Prop} {x:α} {vs vs':List Value},c.rep w S x vs->sW b T Z w w'->(∀k,T k->S k)->Tu w' T Z vs vs'->∃x',(Z->p x->p x')∧c.rep w' S x' vs'
class lE{α:Type}(c:FC α)(p:outParam (α->Prop)):Prop where
 sim:∀{b:Nat} {w w':World} {S T:Nat->Prop} {Z:Prop} {x:α} {vs:List Value},c.rep w S x vs->sW b T Z w w'->(∀k,T k->S k)->∃x',(Z->p x->p x')∧c.rep w' S x' vs
instance {α:Type}(c:FC α)(p:α->Prop)[h:uL c p]:lE c p:=⟨fun a b k=>h.sim a b k (Tu.refl _ _ _ _)⟩
instance (k:IntKind):uL (CR k) (fun _=>True):=⟨fun e _ _ h=>by
 obtain rfl:=e;obtain⟨v,rfl,h2⟩:=h.one
 cases h2;exact⟨_,fun _ _=>trivial,rfl⟩⟩
instance {α β:Type}(c:FC α)(d:FC β)(p:α->Prop)(q:β->Prop)[hc:uL c p][hd:uL d q]:uL (DL c d) (fun x=>p x.1∧q x.2):=⟨fun⟨us,ts,e,h1,h2⟩ hs k h=>by
 subst e;obtain⟨vs1,vs2,rfl,k1,k2⟩:=h.app
 obtain⟨x,a0,a⟩:=hc.sim h1 hs k k1
 obtain⟨y,b0,b⟩:=hd.sim h2 hs k k2
 exact⟨(x,y),fun z hp=>⟨a0 z hp.1,b0 z hp.2⟩,vs1,vs2,rfl,a,b⟩⟩
instance {α β:Type}(c:FC α)(d:FC β)(p:α->Prop)(q:β->Prop)[hc:lE c p][hd:lE d q]:lE (DL c d) (fun x=>p x.1∧q x.2):=⟨fun⟨us,ts,e,h1,h2⟩ hs k=>by
 obtain⟨x,a0,a⟩:=hc.sim h1 hs k
 obtain⟨y,b0,b⟩:=hd.sim h2 hs k
 exact⟨(x,y),fun z hp=>⟨a0 z hp.1,b0 z hp.2⟩,us,ts,e,a,b⟩⟩
section
variable {P:Program} {N:Nat} {o:Oper} {K:KL} {w:World}
end
/-! ## Cells of which the slices are their own -/
section
variable {α β γ:Type} {cP:FC α} {eP:TypeId} {cA:FC β} {eA:TypeId} {cT:FC γ} {eT:TypeId} {w:World} {xs:List α} {ys:List β} {zs:List γ} {u v t:Value} {B B2 B3 lo hi hi2:Nat}
end
/-! ## An element of an own slice is appended to it -/
end Go.Eng
namespace Go.Eng
open Go Go.RowKit
/-! ## Fewer words -/
theorem nz{n:Nat}:0<=n:=Nat.zero_le n
theorem UJ(b:Nat)(w:World):Cb (pB b) w w:=Cb.refl _ w
abbrev cJ:FC Int:=CR .i64
section
variable {w0 w w':World} {b:Nat} {p:Nat -> Prop}
instance:Mv w w' (Bl w0 w) (Bl w0 w'∧w.heap.size<=w'.heap.size) True:=⟨fun h _ k=>Et h k⟩
instance:Mv w w' (Cb p w0 w) (Cb p w0 w'∧w.heap.size<=w'.heap.size) True:=⟨fun h _ k=>JN h k⟩
instance:Mu b w w' (Bl w0 w) (Bl w0 w'∧w'.heap.size=w.heap.size) (w0.heap.size<=b):=⟨fun h s k=>Eu h k s⟩
instance:Mu b w w' (Cb p w0 w) (Cb p w0 w'∧w'.heap.size=w.heap.size) (w0.heap.size<=b):=⟨fun h s k=>Tm h k (Or.inr s)⟩
instance:Mb b w w' (Cb (pB b) w0 w) (Cb (pB b) w0 w'∧w.heap.size<=w'.heap.size) True:=⟨fun h _ k=>⟨Cb.but h k (Ab (Or.inl rfl)),k.size⟩⟩
end
def Bf:=@Bu.but
def CL:=@Bu.cells
def BJ:=@Bu.lt
def DR:=@Cb.but
def CT:=@Cb.ext
def CE:=@Cb.grow
def BO:=@Cb.refl
def Ex:=@Cb.trans
def Bk:=@BK.sub
def AF:=@Bl.refl
def AC:=@Bl.trans
def AZ:=@Ev.box
def Ah:=@Ev.ownF
def Ba:=@Ev.slr
def DS:=@NX.end
def AP:=@Nb.of
def Ag:=@No.of
def Bs:=@No.symm
def BP:=@Ns.of
def CQ:=@QL.done
def As:=@TL.noPan
def Db:=@WC.heldG
def Es:=@WC.joinD
def AL:=@WC.loopD
def DN:=@own2.wide
def AH:=@AS.base
def Bz:=@AS.baseN
def AE:=@AS.blk
def Az:=@AS.butF
def Dt:=@AS.butN
def Bi:=@AS.nil
def AM:=@AS.slN
def AD:=@AS.slf
def Aa:=@AS.wideN
def CI:=@Ae.cl
def AO:=@Ae.one
end Go.Eng
