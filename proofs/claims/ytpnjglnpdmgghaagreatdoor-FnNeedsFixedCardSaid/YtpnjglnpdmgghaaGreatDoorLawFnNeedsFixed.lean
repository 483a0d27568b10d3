/- The plain law behind FnNeedsFixed: the plain function answers true; no condition. -/
import Derived.Test.YtpnjglnpdmgghaaGreatDoorLawFnNeedsFixedA
set_option linter.all false
set_option maxHeartbeats 4000000
namespace Go.Proofs.YtpnjglnpdmgghaaGreatDoor
open Go Go.RowKit Go.Eng
open Go.IntKind (wrap)
structure Ru(b:AV):Prop where
 lib:XV b.d
 dsg:QW b.b
 wires:b.c.length<=9∧∀w∈b.c,Ph w
theorem Ru.sm{b:AV}(h:Ru b):Qz b:=
 ⟨h.lib,⟨⟨by have:=h.dsg.inst.1;omega,fun x B=>⟨by have:=(h.dsg.inst.2 x B).1;omega,by have:=(h.dsg.inst.2 x B).2.2;omega⟩⟩,⟨by have:=h.dsg.nets.1;omega,fun x B=>by have:=h.dsg.nets.2 x B;omega⟩,⟨by have:=h.dsg.ports.1;omega,fun p F=>by have:=h.dsg.ports.2 p F;omega⟩⟩,
  ⟨by have:=h.wires.1;omega,fun w E=>by obtain⟨⟨_,a⟩,⟨_,b⟩,⟨_,c⟩,d⟩:=h.wires.2 w E;exact⟨⟨⟨by omega,by omega⟩,by omega⟩,by omega⟩⟩⟩
theorem xB{n:Nat}(E:1048577<=n){c:List Int}(H:OZ c){s0:AA}(F:s0.d=c){r38:At×AA}(B:QW r38.1){k0:List DD->Int->Int->Int->Option Unit}
 (G:∀l i a d,l.length=r38.1.b.length->(∀w∈l,Ph w∧w.c.length<=100)->HN c (AA.mk s0.d a d)->k0 l i a d=some ()):∀(m i:Nat) (l:List DD) (a d:Int),r38.1.b.length-i<m->i<=r38.1.b.length->l.length=i->(∀w∈l,Ph w∧w.c.length<=100)->HN c (AA.mk s0.d a d)->
 PI n s0 r38 k0 m l (i:Int) a d=some ()
 |0,i,l,a,d,hm,_,_,_,_=>by omega
 |m+1,i,l,a,d,hm,hi,hl,hw,hs=>by
  have W:=B.nets.1
  rw [PI.eq_2]
  by_cases q:i<r38.1.b.length
  ·obtain⟨r,f,U⟩:=zY (n:=n) B (i:Int) E
   rw [FL q,cT,f,BQ]
   refine Qw (DWr E H hs (by omega)) fun O ⟨J,I⟩=>?_
   rw [CU (by simp;omega) (by omega),BQ,wS (by omega)]
   refine xB E H F B G m (i+1) _ _ _ (by omega) (by omega) (by simp;omega) (fun w h=>?_) (I.mk2 F)
   rcases CM.1 h with h|h
   ·exact hw w h
   ·rw [Bb.1 h];exact J
  ·obtain rfl:i=r38.1.b.length:=by omega
   rw [Fh,cF]
   exact G l _ a d hl hw hs
theorem D07{n:Nat}(U:1048577<=n){c:List Int}(J:OZ c){s:AA}(Z:HN c s){O:RE}{B:Int}(hm:2<=B∧B<=6){E:Bool}{g:AV×AA->Option Unit}(hg:∀b F,Ru b->b.c.length=b.b.b.length->(∀w∈b.c,w.c.length<=100)->HN c F->g (b,F)=some ()):Vx n O s B E g=some ():=by
 have e:=Z.code
 rw [Vx]
 refine Qw (DLi J Z U) fun r ⟨h1,h2⟩=>D05 U J (h2.mk2 e) hm fun d F G H=>?_
 have hb:=G.nets.1
 exact xB (r38:=(d,F)) U J e G (fun l i a d2 Y W I=>hg _ _ ⟨h1,G,by show l.length<=9;rw [Y];exact hb.2,fun w h=>(W w h).1⟩ Y (fun w h=>(W w h).2) I) n 0 [] _ _ (by show d.b.length-0<n;omega) (by omega) rfl (by simp) (H.mk2 e)
theorem AdS{n:Nat}(hn:1048577<=n){c:List Int}(J:OZ c){s:AA}(hs:HN c s){O:RE}{g:AV×AA->Option Unit}(G:∀b s',Ru b->HN c s'->g (b,s')=some ()):cO n O s g=some ():=by
 have e:=hs.code
 rw [cO];try simp only [jn]
 refine Qw (Nx J hs 3) fun r ⟨h1,_⟩=>D07 hn J (h1.mk2 e) (by omega) fun b s' B hw hk a0=>Qw (Nx J (a0.mk2 e) _) fun Z ⟨h2,z0,z1⟩=>Qw (Nx J (h2.mk2 e) 20) fun r3 ⟨I,_⟩=>?_
 have wl:=B.wires.1
 have nl:=B.dsg.nets.1
 have z1:Z.1<(b.c.length:Int):=by
  have z1:Z.1<(b.c.length:Int)∨Z.1=0∧(b.c.length:Int)<=1:=z1
  omega
 obtain⟨k,ek⟩:=Ap z0
 have ek:Z.1=(k:Int):=ek
 have kl:k<b.c.length:=by omega
 have gk:AU b.c Z.1=some b.c[k]:=by rw [ek];exact Ar kl
 have wk:=B.wires.2 _ (AQ kl)
 have F:=fun(y:List DD) (E:JJ Kr b.c y)=>(⟨B.lib,B.dsg,⟨by show y.length<=9;rw [E.1];exact wl,Ph.shp E B.wires.2⟩⟩:Ru (AV.mk b.d b.b y))
 refine Iz (fun _=>?_) fun _=>Iz (fun _=>?_) fun _=>Iz (fun _=>?_) fun _=>Iz (fun _=>?_) fun _=>Iz (fun _=>?_) fun _=>Iz (fun _=>?_) fun _=>G _ _ B (I.mk2 e)
 ·rw [show PP b.c 1 (b.c.length:Int)=some ((b.c.take (b.c.length:Int).toNat).drop (1:Int).toNat)from BE ⟨by omega,by omega,by omega⟩,BQ]
  exact G _ _ ⟨B.lib,B.dsg,⟨by simp;omega,fun w H=>B.wires.2 w (List.mem_of_mem_take (List.mem_of_mem_drop H))⟩⟩ (I.mk2 e)
 ·have sl:=wk.2.2.2
  simp only [gk,BQ,Xv (n:=n) (show b.c[k].c.length<=1000 by omega),CU (show b.c[k].c.length+[(0:Int)].length<=16777216 by simp;omega) (show 8<=1048576 by omega)]
  refine G _ _ ⟨B.lib,B.dsg,⟨by rw [Er];exact wl,fun w H=>?_⟩⟩ (I.mk2 e)
  have a2:=hk _ (AQ kl)
  rcases List.mem_or_eq_of_mem_set H with h|h
  ·exact B.wires.2 w h
  ·rw [h];exact⟨wk.1,wk.2.1,wk.2.2.1,by rw [CA];simp;omega⟩
 ·obtain⟨⟨p1,p2⟩,⟨r1,Y⟩,⟨c1,c2⟩,s1⟩:=wk
  rw [gk,BQ,show(0:Int)=((0:Nat):Int)from rfl,Ar (show 0<b.c[k].d.length by omega),BQ]
  exact O.inn fun y E=>G _ _ (F y E) (I.mk2 e)
 ·obtain⟨⟨p1,p2⟩,⟨r1,Y⟩,⟨c1,c2⟩,s1⟩:=wk
  rw [gk,BQ]
  refine Qw (Nx J (I.mk2 e) 3) fun r4 ⟨h4,y0,y1⟩=>?_
  obtain⟨v,hv,_⟩:=Ia (xs:=[(-1:Int),500,501]) y0 (by simp;omega)
  rw [hv,BQ,show(0:Int)=((0:Nat):Int)from rfl,Ar (show 0<b.c[k].f.length by omega),BQ]
  exact O.inn fun y E=>G _ _ (F y E) (h4.mk2 e)
 ·obtain⟨⟨p1,p2⟩,⟨r1,Y⟩,⟨c1,c2⟩,s1⟩:=wk
  rw [gk,BQ,BQ]
  refine Qw (Nx J (I.mk2 e) 5) fun r4 ⟨h4,_⟩=>?_
  have w1:wrap .i64 ((b.c[k].b.length:Int)-1)=((b.c[k].b.length-1:Nat):Int):=by rw [BV (by omega) (by omega)];omega
  rw [w1,Ar (show b.c[k].b.length-1<b.c[k].b.length by omega),BQ]
  exact O.inn fun y E=>G _ _ (F y E) (h4.mk2 e)
 ·rw [show(0:Int)=((0:Nat):Int)from rfl,Ar (show 0<b.b.d.length by have:=B.dsg.ports.1;omega),BQ]
  refine O.inn fun y1 U=>O.inn fun y2 a1=>O.inn fun y3 W=>?_
  obtain rfl:=dQ a1
  exact G _ _ ⟨B.lib,⟨⟨by show y1.length<=6;rw [U.1];exact B.dsg.inst.1,Pc.shp U B.dsg.inst.2⟩,B.dsg.nets,⟨by show 3<=y3.length∧y3.length<=5;rw [W.1];exact B.dsg.ports.1,WZ W B.dsg.ports.2 fun x z hr hx=>by rw [←hr.1];exact hx⟩⟩,B.wires⟩ (I.mk2 e)
theorem D09{n:Nat}(U:1048577<=n){c:List Int}(G:OZ c){s:AA}(I:HN c s){O:RE}{g:AV×AA->Option Unit}(J:∀b E,Ru b->HN c E->g (b,E)=some ()):eG n O s g=some ():=by
 have e:=I.code
 rw [eG];try simp only [jn]
 refine Qw (Nx G I 12) fun r ⟨H,_⟩=>Iz (fun _=>AdS U G (H.mk2 e) fun b E F B=>J _ _ F (B.mk2 e)) fun _=>Iz (fun _=>Iz (fun _=>?_) fun _=>?_) fun _=>Iz (fun _=>?_) fun _=>?_
 all_goals exact D07 U G (H.mk2 e) (by omega) fun b E F _ _ B=>J _ _ F (B.mk2 e)
theorem yA{n:Nat}{c:List Int}(W:OZ c){s0:AA}(H:s0.d=c){G:List Al}(Y:G.length<=5128){r90:Int×AA}(Z:0<=r90.1∧r90.1<8):∀(m i:Nat) (l:List Int) (a d:Int),G.length-i<m->l.length<=i->i<=6000->HN c (AA.mk s0.d a d)->
 Cf (fun r=>r.1.length<=6001∧HN c r.2) (PJ n s0 G r90 (fun F a0 I O=>(Option.bind (Hn n ((AA.mk s0.d I O)) 12) fun B=>(cond (B.1==0) (Option.bind (Hn n ((AA.mk s0.d B.2.c B.2.b)) 2) fun E=>(Option.bind (EU F ([wrap .i64 (((G.length:Int))*E.1)]) 8) fun J=>(some (J,(AA.mk s0.d E.2.c E.2.b))))) (some (F,(AA.mk s0.d B.2.c B.2.b)))))) m l (i:Int) a d)
 |0,i,l,a,d,hm,_,_,_=>by omega
 |m+1,i,l,a,d,hm,hl,hi,hs=>by
  rw [PJ.eq_2]
  by_cases q:i<G.length
  ·have w9:wrap .i64 (1+r90.1)=1+r90.1:=BV (by omega) (by omega)
   rw [FL q,cT,CU (by simp;omega) (by omega),BQ,w9]
   refine Cf.bind (Nx W hs _) fun r _ ⟨U,z0,z1⟩=>?_
   have z2:r.1<=8:=by omega
   have wi:wrap .i64 ((i:Int)+(wrap .i64 (1+r.1)))=((i+1+r.1.toNat:Nat):Int):=by
    rw [BV (x:=1+r.1) (by omega) (by omega),BV (by omega) (by omega)];omega
   rw [wi]
   exact yA W H Y Z m _ _ _ _ (by omega) (by simp;omega) (by omega) (U.mk2 H)
  ·rw [show decide ((i:Int)<(G.length:Int))=false from Av (by omega),cF]
   refine Cf.bind (Nx W hs 12) fun r _ ⟨U,_⟩=>Be (fun _=>?_) fun _=>Ao ⟨by show l.length<=6001;omega,U.mk2 H⟩
   refine Cf.bind (Nx W (U.mk2 H) 2) fun r2 _ ⟨h2,_⟩=>?_
   rw [CU (by simp;omega) (by omega),BQ]
   exact Ao ⟨by simp;omega,h2.mk2 H⟩
theorem DBr{n:Nat}(O:1048577<=n){c:List Int}(B:OZ c){s:AA}(I:HN c s){b:AV}(hb:Qz b):Cf (fun r=>r.1.length<=6001∧HN c r.2) (ZB n s b):=by
 have e:=I.code
 obtain⟨v,W,Y⟩:=gF (n:=n) hb O
 rw [ZB,W,BQ]
 refine Cf.bind (A:=fun x=>HN c (AA.mk s.d x.2.1 x.2.2)∧(x.1=false->v=true)) (Be (fun _=>Ao ⟨I,fun h=>by cases h⟩) fun q=>Cf.bind (Nx B I 3) fun r _ ⟨H,_⟩=>Ao ⟨H.mk2 e,fun _=>by cases v<;>simp_all⟩) fun x _ ⟨J,F⟩=>Be (fun _=>Ao ⟨by simp,J⟩) fun q=>?_
 have G:=Y.1 (F q)
 rw [Sp G O,BQ]
 refine Cf.bind (Nx B J 8) fun r _ ⟨H,z0,z1⟩=>Cf.bind (Nx B (H.mk2 e) _) fun E _ ⟨Z,U,y1⟩=>?_
 have w9:wrap .i64 (1+r.1)=1+r.1:=BV (by omega) (by omega)
 rw [w9]at y1
 have:=yA (n:=n) B e (IJ G) (r90:=r) ⟨z0,by omega⟩ n E.1.toNat [] E.2.c E.2.b (by have:=IJ G;omega) (by simp) (by omega) (Z.mk2 e)
 rw [Int.toNat_of_nonneg U]at this
 exact this
def sO(x:Al):Al:=⟨x.b,x.d,x.c,x.f⟩
def WQ(L:List Al):List Al:=L.map sO
theorem LF(L:List Al):(WQ L).length=L.length:=Dn ..
theorem lA(L:List Al)(i:Int):AU (WQ L) i=(AU L i).map sO:=by
 unfold AU WQ;split<;>simp
theorem uJ{L:List Al}{lv:List Bool}{K K':Bool->Int->List Bool->Option (List Bool)}(B:∀q i l,K q i l=K' q i l):∀(m:Nat) (q:Bool) (i:Int) (l:List Bool),JO L lv false K m q i l=JO (WQ L) lv true K' m q i l
 |0,_,_,_=>rfl
 |m+1,q,i,l=>by
  simp only [JO.eq_2,LF,lA,BC,Ac,cT,cF,B,jn]
  cases AU L i with
  |none=>rfl
  |some x=>simp only [Option.map_some,BQ,sO,uJ B m]
theorem yK{n:Nat}{L:List Al}{lv:List Bool}:∀(m:Nat) (q:Bool) (l:List Bool),Ju n L lv false (fun _ B=>(some B)) m q l=Ju n (WQ L) lv true (fun _ B=>(some B)) m q l
 |0,_,_=>rfl
 |m+1,q,l=>by
  simp only [Ju.eq_2,jn]
  rw [uJ (K':=fun F _ E=>(Ju n (WQ L) lv true (fun G B=>(some B)) m F E)) fun q i l=>yK m q l]
theorem RcB{n:Nat}{L:List Al}{lv:List Bool}{N s:Nat}(F:Pb L N)(B:lv.length=L.length)(H:L.length<=10000)(G:N<=1000)(I:s<N)(J:1048577<=n):
 ∃out,lR n (N:Int) L lv (s:Int) false=some out∧Vv (WQ L) lv (fun u=>u=(s:Int)) N out:=by
 have E:∀k (h:k<(WQ L).length),(WQ L)[k]=sO (L[k]'(by rw [LF]at h;exact h)):=fun k h=>Fg _
 have:=Rc1 (n:=n) (L:=WQ L) (lv:=lv) (N:=N) (s:=s) ⟨fun k h=>by rw [E k h];exact F.to_ k (by rw [LF]at h;exact h),fun k h=>by rw [E k h];exact F.from_ k (by rw [LF]at h;exact h)⟩ (by rw [LF];exact B) (by rw [LF];exact H) G I J
 unfold lR at this ⊢
 simp only [yK]
 exact this
theorem LJ.trans{L:List Al}{lv:List Bool}{u v:Int}{w:Int}(B:LJ L lv (fun x=>x=u) v)(F:LJ L lv (fun x=>x=v) w):LJ L lv (fun x=>x=u) w:=by
 induction F with
 |src e=>have e:_=v:=e;subst e;exact B
 |step _ e E=>exact .step E e
theorem Ed.rv{L:List Al}{lv:List Bool}{u w:Int}:Ed (WQ L) lv u w↔Ed L lv w u:=by
 constructor
 ·rintro ⟨k,E,H,F,G⟩
  have B:k<L.length:=by rw [LF]at E;exact E
  have e:(WQ L)[k]=sO L[k]:=Fg _
  rw [e]at F G
  exact⟨k,B,H,G,F⟩
 ·rintro ⟨k,E,H,F,G⟩
  have B:k<(WQ L).length:=by rw [LF];exact E
  have e:(WQ L)[k]=sO L[k]:=Fg _
  exact⟨k,B,H,by rw [e];exact G,by rw [e];exact F⟩
theorem LJ.one{L:List Al}{lv:List Bool}{u w:Int}(e:Ed L lv u w):LJ L lv (fun x=>x=u) w:=.step (.src rfl) e
theorem LJ.rv{L:List Al}{lv:List Bool}{v w:Int}(h:LJ (WQ L) lv (fun x=>x=v) w):LJ L lv (fun x=>x=w) v:=by
 induction h with
 |src e=>have e:_=v:=e;subst e;exact .src rfl
 |step _ e B=>exact LJ.trans (LJ.one (Ed.rv.1 e)) B
theorem LJ.vr{L:List Al}{lv:List Bool}{v w:Int}(h:LJ L lv (fun x=>x=w) v):LJ (WQ L) lv (fun x=>x=v) w:=by
 induction h with
 |src e=>have e:_=w:=e;subst e;exact .src rfl
 |step _ e B=>exact LJ.trans (LJ.one (Ed.rv.2 e)) B
theorem LJ.first{L:List Al}{lv:List Bool}{u w:Int}(h:LJ L lv (fun x=>x=u) w)(E:u≠w):∃x,Ed L lv u x∧LJ L lv (fun y=>y=x) w:=by
 induction h with
 |src e=>exact absurd (show _=u from e).symm E
 |@step a b h1 e ih=>
  by_cases c:u=a
  ·subst c;exact⟨_,e,.src rfl⟩
  ·obtain⟨x,F,B⟩:=ih c
   exact⟨x,F,.step B e⟩
theorem ZH{L:List Al}{lv:List Bool}(Y:∀k (h:k<L.length) j (g:j<L.length),L[k].b=L[j].d->L[k].c=1∨L[j].c=1){v w:Int}(J:v≠w)(h1:LJ L lv (fun x=>x=v) w)(E:LJ L lv (fun x=>x=w) v):
 ∃k,∃h:k<L.length,gb lv k=true∧L[k].c=1∧(LJ L lv (fun x=>x=v) L[k].d∧LJ L lv (fun x=>x=L[k].d) v)∧LJ L lv (fun x=>x=v) L[k].b∧LJ L lv (fun x=>x=L[k].b) v:=by
 cases h1 with
 |src e=>exact absurd (show w=v from e).symm J
 |@step a _ g e=>
  have O:=e
  obtain⟨k,H,q1,q2,U⟩:=e
  obtain⟨x,W,Z⟩:=LJ.first E fun c=>J c.symm
  have F:=W
  obtain⟨j,I,r1,G,r3⟩:=W
  have B:LJ L lv (fun x=>x=v) w:=.step g O
  rcases Y k H j I (by rw [U,G])with c|c
  ·exact⟨k,H,q1,c,by rw [q2];exact⟨g,LJ.trans (LJ.one O) E⟩,by rw [U];exact⟨B,E⟩⟩
  ·exact⟨j,I,r1,c,by rw [G];exact⟨B,E⟩,by rw [r3];exact⟨.step B F,Z⟩⟩
theorem WtT{n:Nat}{l:List Int}(h:YG l)(x:Int)(hn:1048577<=n):∃(i:Nat) (a b:Int),kC n l x=some ((i:Int),a,b)∧((i<l.length∧a=1∧b=0)∨(i+1<l.length∧(1<=a∧a<=100000)∧(1<=b∧b<=100000))):=by
 have U:=h.1
 have ci:=VY h x
 have H:wrap .i64 ((l.length:Int)-1)=((l.length-1:Nat):Int):=by rw [BV (by omega) (by omega)];omega
 have O:AU l 0=some (gd l 0):=gI (l:=l) (i:=0) (by omega)
 have Y:AU l ((l.length-1:Nat):Int)=some (gd l (l.length-1)):=gI (by omega)
 rw [kC,O,BQ,H,Y,BQ]
 have F:∀(m i:Nat),i<l.length->i<m->(∀k,i<k->k<l.length->Ey l x<gd l k)->∃(j:Nat) (a b:Int),Jx l x (gd l 0) (gd l (l.length-1)) (fun a0=>(some (0,1,0))) m (i:Int)=some ((j:Int),a,b)∧((j<l.length∧a=1∧b=0)∨(j+1<l.length∧(1<=a∧a<=100000)∧(1<=b∧b<=100000))):=by
  intro m
  induction m with
  |zero=>intro i _ h;omega
  |succ m Z=>
   intro i hi hm G
   have W:decide ((i:Int)>=0)=true:=Aw (by omega)
   rw [Jx.eq_2,W,cT,gI hi,BQ,show min (max x (gd l 0)) (gd l (l.length-1))=Ey l x from rfl]
   by_cases c:Ey l x=gd l i
   ·rw [show(Ey l x==gd l i)=true from BB.2 c,cT]
    exact⟨i,1,0,rfl,.inl ⟨hi,rfl,rfl⟩⟩
   ·rw [show(Ey l x==gd l i)=false from AJ.2 c,cF,BQ]
    have r0:=h.2.1 i hi
    by_cases c2:Ey l x>gd l i
    ·have B:i+1<l.length:=by
      apply Nat.lt_of_not_le
      intro q
      have:i=l.length-1:=by omega
      subst this;omega
     have r1:=h.2.1 (i+1) B
     have hc:=G (i+1) (by omega) B
     rw [Aw c2,cT,wS (by omega),gI B,BQ,BQ,BV (by omega) (by omega),BV (by omega) (by omega)]
     exact⟨i,_,_,rfl,.inr ⟨B,by omega,by omega⟩⟩
    ·have hp:0<i:=by
      apply Nat.pos_of_ne_zero
      intro q;subst q;omega
     have I:wrap .i64 ((i:Int)-1)=((i-1:Nat):Int):=by rw [BV (by omega) (by omega)];omega
     rw [Av c2,cF,I]
     refine Z (i-1) (by omega) (by omega) fun k J E=>?_
     by_cases q:k=i
     ·subst q;omega
     ·exact G k (by omega) E
 exact F n (l.length-1) (by omega) (by omega) fun k U h2=>by omega
theorem uY{n:Nat}{s D mode:Int}(h:D≠0):∃r,Of n s D mode=some r:=by
 have B:(D==0)=false:=by rw [AJ];exact h
 rw [Of,B,cF,cF]
 cases(decide (Int.tmod s D<0))&&((mode==0))<;>cases(decide (Int.tmod s D>0))&&((mode==1))<;>exact⟨_,rfl⟩
theorem zF{t:Cc}(v:VT t){i k u q:Nat}{w:Int}{U V:Int}{A:Int->Option Int}{B:Option Int}(F:w>0->i+u<t.d.length∧k+q<t.c.length)(O:U=(u:Int))(W:V=(q:Int))(G:q<=1)(Y:∀x,Cf (fun _=>True) (A x))(J:Cf (fun _=>True) B):
 Cf (fun _=>True) (cond (decide (w>0)) (Option.bind (AU t.b (wrap .i64 (wrap .i64 (wrap .i64 (wrap .i64 ((i:Int)+U)*(t.c.length:Int))+(k:Int))+V))) A) B):=by
 have S4:=v.1.1.1.2
 have Z:=v.1.2.1.2
 have E:=v.2.1
 subst O W
 refine Be (fun c=>?_) fun _=>J
 obtain⟨I,H⟩:=F (Cu c)
 have hb:=gG (S:=t.d.length) (L:=t.c.length) (i:=i+u) (k:=k+q) I H
 rw [tP (by omega) (by omega) (by omega) G,gI (by omega),BQ]
 exact Y _
theorem Uw{a c:Int}(h:wrap .i64 (a*c)>0):a≠0∧c≠0:=by
 constructor
 ·intro e;subst e;rw [Int.zero_mul]at h;exact absurd h (by decide)
 ·intro e;subst e;rw [Int.mul_zero]at h;exact absurd h (by decide)
structure WtO(l:List Int)(i:Nat)(a b:Int):Prop where
 lo:i<l.length
 hi:b≠0->i+1<l.length
theorem vO{t:Cc}(v:VT t){i k:Nat}{a b c d:Int}(I:WtO t.d i a b)(H:WtO t.c k c d){u:Int}(hu:u=0∨u=1){K:Int->Int->Option Int}(hK:∀s,Cf (fun _=>True) (K s 2))(m:Nat)(s:Int):Cf (fun _=>True) (Ii t ((i:Int),a,b) ((k:Int),c,d) u K (m+3) s 0):=by
 have O:wrap .i64 (0+1)=1:=rfl
 have U:wrap .i64 (1+1)=2:=rfl
 have J:decide ((0:Int)<2)=true:=rfl
 have W:decide ((1:Int)<2)=true:=rfl
 have Z:decide ((2:Int)<2)=false:=rfl
 have a0:((0:Int)==0)=true:=rfl
 have Y:((1:Int)==0)=false:=rfl
 have B:((0:Int)==1)=false:=rfl
 have E:((1:Int)==1)=true:=rfl
 have F:∀s,Cf (fun _=>True) (Ii t ((i:Int),a,b) ((k:Int),c,d) u K (m+1) s 2):=fun s=>by
  rw [Ii.eq_2];(try simp only [jn]);rw [Z,cF];exact hK s
 have G:∀s,Cf (fun _=>True) (Ii t ((i:Int),a,b) ((k:Int),c,d) u K (m+2) s 1):=fun s=>by
  rw [Ii.eq_2];(try simp only [jn]);rw [W,cT,Y,cF,cF,U]
  rcases hu with rfl|rfl
  ·rw [B,cF]
   exact zF v (u:=0) (q:=1) (fun h=>⟨I.lo,H.hi (Uw h).2⟩) rfl rfl (by omega) (fun _=>F _) (F _)
  ·rw [E,cT]
   exact zF v (u:=1) (q:=1) (fun h=>⟨I.hi (Uw h).1,H.hi (Uw h).2⟩) rfl rfl (by omega) (fun _=>F _) (F _)
 rw [Ii.eq_2];(try simp only [jn]);rw [J,cT,a0,cT,cT,O]
 rcases hu with rfl|rfl
 ·rw [B,cF]
  exact zF v (u:=0) (q:=0) (fun h=>⟨I.lo,H.lo⟩) rfl rfl (by omega) (fun _=>G _) (G _)
 ·rw [E,cT]
  exact zF v (u:=1) (q:=0) (fun h=>⟨I.hi (Uw h).1,H.lo⟩) rfl rfl (by omega) (fun _=>G _) (G _)
theorem eL{l:List Int}{i:Nat}{a b:Int}(h:(i<l.length∧a=1∧b=0)∨(i+1<l.length∧(1<=a∧a<=100000)∧(1<=b∧b<=100000))):WtO l i a b∧0<wrap .i64 (a+b)∧wrap .i64 (a+b)<=200000:=by
 have e:wrap .i64 (a+b)=a+b:=BV (by omega) (by omega)
 rw [e]
 rcases h with ⟨h,rfl,rfl⟩|⟨h,B,E⟩
 ·exact⟨⟨h,fun c=>absurd rfl c⟩,by omega,by omega⟩
 ·exact⟨⟨by omega,fun _=>h⟩,by omega,by omega⟩
theorem LkT{n:Nat}{t:Cc}(v:VT t)(x y mode:Int)(I:1048577<=n):Cf (fun _=>True) (mU n t x y mode):=by
 obtain⟨i,a,b,W,h1⟩:=WtT (n:=n) v.1.1 x I
 obtain⟨k,c,d,e2,Y⟩:=WtT (n:=n) v.1.2 y I
 obtain⟨J,U,p2⟩:=eL h1
 obtain⟨o2,Z,q2⟩:=eL Y
 obtain⟨m,rfl⟩:∃m,n=m+3:=⟨n-3,by omega⟩
 rw [mU];(try simp only [jn]);rw [W,e2,BQ,BQ]
 have E:wrap .i64 (0+1)=1:=rfl
 have F:wrap .i64 (1+1)=2:=rfl
 have B:decide ((0:Int)<2)=true:=rfl
 have G:decide ((1:Int)<2)=true:=rfl
 have H:decide ((2:Int)<2)=false:=rfl
 rw [Kj.eq_2];(try simp only [jn]);rw [B,cT,E]
 refine vO v J o2 (.inl rfl) (fun s=>?_) m 0
 rw [Kj.eq_2];(try simp only [jn]);rw [G,cT,F]
 refine vO v J o2 (.inr rfl) (fun s=>?_) m _
 have O:=mw (a:=wrap .i64 (a+b)) (c:=wrap .i64 (c+d)) (by omega) (by omega)
 rw [Kj.eq_2];(try simp only [jn]);rw [H,cF]
 try dsimp only
 rw [O]
 have:=Int.mul_pos U Z
 obtain⟨r,er⟩:=uY (n:=m+3) (s:=s) (D:=wrap .i64 (a+b)*wrap .i64 (c+d)) (mode:=mode) (by omega)
 rw [er]
 exact Ao trivial
theorem Dl1{n:Nat}{b:AV}(v:Dd b){i:Nat}(hi:i<b.c.length)(O:1048577<=n):Cf (fun r=>r.length=b.c[i].b.length) (ZP n b (i:Int)):=by
 have B:=v.wire i hi
 have hm:=B.many
 rw [ZP,Ar hi,BQ]
 refine Cf.bind (Ld1 v hi O) fun F _ U=>?_
 refine Yk (L:=fun m j s=>Lm b.c[i] F _ m s j) 1 F.length (fun j s=>s.length=j) ?_ ?_ n [0] (by omega) (by omega) rfl
 ·intro m j s G E J
  have I:=B.tree j G (by omega)
  obtain⟨a,H⟩:=JL (t:=s) I.1 (by omega)
  simp only [Lm.eq_2,FL E,cT,gI (show j<b.c[i].b.length by omega),BQ,H,gI (show j<b.c[i].d.length by have:=B.res;omega),gI E,wT j]
  rw [CU (by simp;omega) (by omega),BQ]
  exact⟨_,by simp;omega,rfl⟩
 ·intro m s J
  simp only [Lm.eq_2,Fh,cF]
  exact⟨s,rfl,by omega⟩
theorem Ug{b:AV}(v:Dd b){i:Nat}(hi:i<b.c.length):b.c[i].c.length<=78:=by
 have B:=v.design
 have E:=EJ B.short B.few.1 B.few.2.2
 have h:snk b.b (i:Int)<=78:=BH CW E
 have:=(v.wire i hi).sink
 omega
theorem Sd1{n:Nat}{b:AV}(v:Dd b){i:Nat}(hi:i<b.c.length){mode:Int}(O:1048577<=n):Cf (fun r=>r.length=b.c[i].c.length) (Wk n b (i:Int) mode):=by
 have E:=v.wire i hi
 have hm:=E.many
 have U:=Ug v hi
 rw [Wk]
 refine Cf.bind (Dl1 v hi O) fun G _ W=>?_
 refine OI (L:=fun m j s=>Jc n b (i:Int) mode G _ m s j) b.c[i].c.length (fun j s=>s.length=j) ?_ ?_ n [] (by omega) rfl
 ·intro m j s B F
  have H:=E.sinks j B
  obtain⟨a,J⟩:=JL (t:=G) H.1 (by omega)
  obtain⟨r,I⟩:=uY (n:=n) (s:=a) (D:=1000) (mode:=mode) (by omega)
  simp only [Jc.eq_2,Ar hi,BQ,FL B,cT,gI B,J,I,wT j]
  rw [CU (by simp;omega) (by omega),BQ]
  exact⟨_,by simp;omega,rfl⟩
 ·intro m s F
  simp only [Jc.eq_2,Ar hi,BQ,Fh,cF]
  exact⟨s,rfl,F⟩
theorem AdU{n:Nat}{x mode:Int}(hn:1048577<=n):Cf (fun _=>True) (dF n x mode):=by
 rw [dF]
 have E:∀(m:Nat) (i j:Int),0<=i->i<=j->j<=2000000000->j-i<2^m->Cf (fun _=>True) (LC x (fun B Z=>(cond (((mode==1))&&(decide (wrap .i64 (B*B)<x))) (some (wrap .i64 (B+1))) (some B))) (m+1) i j):=by
  intro m
  induction m with
  |zero=>
   intro i j J I F G
   have:i=j:=by simp at G;omega
   subst this
   rw [LC.eq_2,Av (by omega),cF]
   exact Be (fun _=>Ao trivial) fun _=>Ao trivial
  |succ m H=>
   intro i j J I F G
   rw [Int.pow_succ]at G
   rw [LC.eq_2]
   by_cases c:i<j
   ·have U:wrap .i64 (i+j)=i+j:=BV (by omega) (by omega)
    have Y:wrap .i64 (i+j+1)=i+j+1:=BV (by omega) (by omega)
    have e:Int.tdiv (i+j+1) 2=(i+j+1)/2:=Dy (by omega)
    have W:wrap .i64 ((i+j+1)/2)=(i+j+1)/2:=BV (by omega) (by omega)
    have O:wrap .i64 ((i+j+1)/2-1)=(i+j+1)/2-1:=BV (by omega) (by omega)
    rw [Aw c,cT,U,Y,e,W,O]
    exact Be (fun _=>H _ _ (by omega) (by omega) F (by omega)) fun _=>H _ _ J (by omega) (by omega) (by omega)
   ·rw [Av c,cF]
    exact Be (fun _=>Ao trivial) fun _=>Ao trivial
 obtain⟨m,rfl⟩:∃m,n=m+1:=⟨n-1,by omega⟩
 refine E m 0 2000000000 (by omega) (by omega) (by omega) ?_
 have I:(2:Int)^40<=2^m:=by
  have:=FV (show 1<=2 by omega) (show 40<=m by omega)
  exact_mod_cast this
 have F:(2:Int)^40=1099511627776:=by decide
 omega
theorem AdA{n:Nat}{b:AV}(v:Dd b){i:Nat}(hi:i<b.c.length){k B mode:Int}(H:0<=k∧k<(b.c[i].c.length:Int))(G:1048577<=n):Cf (fun _=>True) (Zd n b (i:Int) k B mode):=by
 have O:=v.wire i hi
 rw [Zd]
 refine Cf.bind (Dl1 v hi G) fun W _ Y=>?_
 obtain⟨j,E⟩:=Ap H.1
 have E:k=(j:Int):=E
 subst E
 have F:j<b.c[i].c.length:=by omega
 have U:=O.sinks j F
 obtain⟨a,I⟩:=JL (t:=W) U.1 (by omega)
 rw [Ar hi,BQ,gI F,BQ,I,BQ]
 refine Cf.bind (AdU G) fun r _ _=>?_
 obtain⟨q,J⟩:=uY (n:=n) (s:=r) (D:=1000) (mode:=mode) (by omega)
 rw [J];exact Ao trivial
theorem jF{d:At}{q:Int}:∀x∈It d q,∃t,∃h:t<(pls d).length,x=(t:Int)∧Hz q (pls d)[t]=true:=fun x F=>
 GY (Q:=fun x=>∃t,∃h:t<(pls d).length,x=(t:Int)∧Hz q (pls d)[t]=true) (pls d) 0 (fun j E y B=>by
  rw [DA]at B
  by_cases c:Hz q (pls d)[j]=true
  ·rw [BE c]at B;exact⟨j,E,Bb.1 B,c⟩
  ·rw [BU c]at B;cases B) x F
structure fU(b:AV)(x:Al)(f t q j:Nat):Prop where
 kind:x.c=2
 from_:x.d=2*(f:Int)∨x.d=2*(f:Int)+1
 to_:x.b=2*(t:Int)∨x.b=2*(t:Int)+1
 drv:∃h:f<(pls b.b).length,(pls b.b)[f].d=true
 snk:∃h:t<(pls b.b).length,(pls b.b)[t].d=false∧(pls b.b)[t].b=(q:Int)
 ix:x.f=(j:Int)
 sinks:∃h:q<b.c.length,j<b.c[q].c.length
theorem Rg{b:AV}(v:Dd b):∀x∈HV b,x.c=1∨∃f t q j,fU b x f t q j:=by
 have Y:=v.design
 intro x hx
 simp only [HV,CM]at hx
 rcases hx with hx|hx
 ·refine .inl ?_
  refine GY (Q:=fun x:Al=>x.c=1) b.b.c 0 (fun i hi y G=>?_) x hx
  rw [VH]at G
  refine GY (Q:=fun x:Al=>x.c=1) _ 0 (fun j U z E=>?_) y G
  obtain⟨t,J,rfl⟩:=ED.1 E
  rfl
 ·refine .inr ?_
  refine GY (Q:=fun x:Al=>∃f t q j,fU b x f t q j) b.b.b 0 (fun q O y G=>?_) x hx
  rw [DA]at G
  have I:=QK Y O
  refine GY (Q:=fun x:Al=>∃f t q j,fU b x f t q j) _ 0 (fun j U z E=>?_) y G
  rw [DA]at E
  obtain⟨t,J,W,H⟩:=jF _ (AQ U)
  simp only [Hz,AG,BB,CB]at H
  have F:((pls b.b)[JV b.b q]'I.lt).d=true:=by have:=I.hit;simp only [ID,AG]at this;exact this.2
  have B:q<b.c.length:=by rw [v.many];exact O
  have Z:(It b.b (q:Int)).length=b.c[q].c.length:=by rw [JH];have:=(v.wire q B).sink;omega
  simp only [dX,DX,Ec,or_false]at E
  rw [W]at E
  rcases E with rfl|rfl
  ·exact⟨JV b.b q,t,q,j,rfl,.inl rfl,.inl rfl,⟨I.lt,F⟩,⟨J,H.2,H.1⟩,rfl,⟨B,by omega⟩⟩
  ·exact⟨JV b.b q,t,q,j,rfl,.inr rfl,.inr rfl,⟨I.lt,F⟩,⟨J,H.2,H.1⟩,rfl,⟨B,by omega⟩⟩
theorem rH{n:Nat}{b:AV}(v:Dd b){x:Al}(ok:XE b x)(k:x.c=1)(Y:1048577<=n):∃a z,VF n b x=some (a,z)∧VI a.h true∧VI a.f true:=by
 have F:=v.design
 obtain⟨p,y,c,a,g1,pm,g2,g3,W,kd⟩:=ok.arc k
 have hp:=F.net p pm
 have hW:=v.many
 obtain⟨N,U⟩:=Ap hp.1
 have U:p.b=(N:Int):=U
 have E:N<b.c.length:=by omega
 obtain⟨r,er,hr⟩:=Ld1 (n:=n) v E Y
 have hm:=(v.wire N E).many
 have I:AU ((pls b.b).map Iu) (wrap .i64 (Int.tdiv x.b 2))=some (Iu p):=by
  obtain⟨g0,g5,G⟩:=Gf g1
  obtain⟨M,H⟩:=Ap g0
  have H:wrap .i64 (Int.tdiv x.b 2)=(M:Int):=H
  rw [H]at G ⊢
  rw [HM,FR]
  rw [BZ]at G
  rw [G];rfl
 have O:AU b.b.c (Iu p).c=some y:=g2
 have J:(Iu p).b=(N:Int):=U
 refine⟨a,gd r 0,?_,?_⟩
 ·rw [VF,SF F.short F.few.1 F.few.2.2 Y]
  simp only [BQ,I,O,g3,W,J,er]
  have e0:AU r 0=some (gd r 0):=gI (i:=0) (by omega)
  rw [e0];rfl
 ·obtain⟨_,_,c3⟩:=Gf g3
  obtain⟨cl,ec⟩:=AR.1 c3
  obtain⟨_,_,a3⟩:=Gf W
  obtain⟨al,ea⟩:=AR.1 a3
  have Z:=F.lib.cells _ cl
  rw [ec]at Z
  have B:=(Z.arcs _ al).1
  rw [ea]at B
  unfold RH at B
  obtain⟨_,B⟩:=B
  by_cases k1:a.c=1
  ·rw [BE k1]at B;exact⟨B.2.2.2.1,B.2.2.2.2⟩
  ·rw [BU k1,BE (by omega)]at B;exact⟨B.2.2.2.1,B.2.2.2.2⟩
theorem VC{x:Int}(h:0<=x):0<=Int.tmod x 2∧Int.tmod x 2<2:=Je h (by omega)
theorem cU{n:Nat}{b:AV}(v:Dd b){x:Al}{f t q j:Nat}(h:fU b x f t q j)(I:1048577<=n):Yy n b x=some (q:Int):=by
 have B:=v.design
 have J:=EJ B.short B.few.1 B.few.2.2
 obtain⟨H,_,F⟩:=h.snk
 have E:wrap .i64 (Int.tdiv x.b 2)=(t:Int):=by
  have G:0<=x.b:=by have:=h.to_;omega
  have e:Int.tdiv x.b 2=(t:Int):=by rw [Dy G];have:=h.to_;omega
  rw [e,BV (by omega) (by omega)]
 rw [Yy,SF B.short B.few.1 B.few.2.2 I,BQ,E,Ar (by simpa using H),BQ,Fg]
 show some (pls b.b)[t].b=_
 rw [F]
theorem Fac{n:Nat}{c:BG}{k m:Int}:Cf (fun _=>True) (WD n c k m):=by
 rw [WD]
 refine Be (fun _=>Be (fun _=>Ao trivial) fun _=>Ao trivial) fun _=>Be (fun _=>Ao trivial) fun _=>Ao trivial
theorem kT{n:Nat}{b:AV}(v:Dd b){x:Al}(G:x∈HV b){c:BG}{s m:Int}(B:1048577<=n):Cf (fun _=>True) (Tk n b c x s m):=by
 have ok:=Rj v x G
 have F:∀y:Int,Cf (fun _=>True) (Option.bind (Of n y 1000 m) fun r=>some r):=fun y=>by
  obtain⟨r,e⟩:=uY (n:=n) (s:=y) (D:=1000) (mode:=m) (by omega)
  rw [e];exact Ao trivial
 rw [Tk]
 rcases Rg v x G with k|⟨f,t,q,j,h⟩
 ·rw [BB.2 k,cT]
  obtain⟨a,z,e,E,_⟩:=rH (n:=n) v ok k B
  rw [e,BQ]
  have H:=VC ok.to_.1
  exact Cf.bind (Cf.get H.1 (by rw [E.1];exact H.2) E.2) fun u _ J=>Cf.bind (LkT J.1 _ _ _ B) fun _ _ _=>Cf.bind Fac fun _ _ _=>F _
 ·have k:(x.c==1)=false:=by rw [AJ,h.kind];omega
  obtain⟨I,O⟩:=h.sinks
  rw [k,cF,cU v h B,BQ,h.ix]
  exact Cf.bind (Sd1 v I B) fun r _ U=>Cf.bind (Eo (by omega) (by omega)) fun _ _ _=>Cf.bind Fac fun _ _ _=>F _
theorem WJ{n:Nat}{b:AV}(v:Dd b){x:Al}(F:x∈HV b){s m:Int}(B:1048577<=n):Cf (fun _=>True) (VM n b x s m):=by
 have ok:=Rj v x F
 rw [VM]
 rcases Rg v x F with k|⟨f,t,q,j,h⟩
 ·rw [BB.2 k,cT]
  obtain⟨a,z,e,_,E⟩:=rH (n:=n) v ok k B
  rw [e,BQ]
  have G:=VC ok.to_.1
  exact Cf.bind (Cf.get G.1 (by rw [E.1];exact G.2) E.2) fun u _ I=>Cf.bind (LkT I.1 _ _ _ B) fun _ _ _=>Ao trivial
 ·have k:(x.c==1)=false:=by rw [AJ,h.kind];omega
  obtain⟨H,J⟩:=h.sinks
  rw [k,cF,cU v h B,BQ,h.ix]
  exact Cf.bind (AdA v H ⟨by omega,by omega⟩ B) fun _ _ _=>Ao trivial
theorem AfW{n:Nat}{b:AV}(v:Dd b){x:Al}(B:x∈HV b){c:BG}{s:Ax}(E:1048577<=n):Cf (fun _=>True) (Vq n b c x s):=by
 rw [Vq]
 exact Cf.bind (kT v B E) fun _ _ _=>Cf.bind (kT v B E) fun _ _ _=>Cf.bind (WJ v B E) fun _ _ _=>Cf.bind (WJ v B E) fun _ _ _=>Cf.bind (kT v B E) fun _ _ _=>Cf.bind (kT v B E) fun _ _ _=>Cf.bind (WJ v B E) fun _ _ _=>Cf.bind (WJ v B E) fun _ _ _=>Ao trivial
theorem tZ{n:Nat}{s t:Ax}:Cf (fun _=>True) (Yh n s t):=by rw [Yh];exact Ao trivial
structure mG(N:Nat)(t:BW):Prop where
 r:t.c.length=N
 a:t.b.length=N
 s:t.f.length=N
abbrev St7:=Bool×Int×Int×Int×Int×Int
theorem AfR{n:Nat}{b:AV}(v:Dd b){c:BG}{lv:List Bool}(a0:lv.length=(HV b).length){J:List Bt}(hs:J.length<=1048576){t:BW}(U:mG (2*(pls b.b).length) t){k:Int}(Z:1048577<=n):
 Cf (fun _=>True) (vL n b c (HV b) lv J t k):=by
 have hL:=IJ v
 have W:=PA v
 have hr:=U.r;have ha:=U.a;have Y:=U.s
 rw [vL]
 refine IC (L:=fun m i (p:St7)=>Oi J k _ m p.1 i p.2.1 p.2.2.1 p.2.2.2.1 p.2.2.2.2.1 p.2.2.2.2.2) J.length (fun _ _=>True) (Cf fun _=>True) ?_ ?_ n 0 (false,0,0,0,0,0) (by omega) (by omega) trivial
 ·rintro m i ⟨q,B,F,G,E,H⟩ hi _ I
  simp only [Oi.eq_2,FL hi,cT,Ar hi,BQ,wT i]
  exact Be (fun _=>I (true,_,_,_,_,_) trivial) fun _=>I (q,B,F,G,E,H) trivial
 ·rintro m ⟨q,B,F,G,E,H⟩ _
  simp only [Oi.eq_2,Fh,cF]
  refine IC (L:=fun m i (p:St7)=>Mi n b c (HV b) lv t k _ m p.1 i p.2.1 p.2.2.1 p.2.2.2.1 p.2.2.2.2.1 p.2.2.2.2.2) (HV b).length (fun _ _=>True) (Cf fun _=>True) ?_ ?_ n 0 (q,B,F,G,E,H) (by omega) (by omega) trivial
  ·rintro m i ⟨q,B,F,G,E,H⟩ hi _ I
   have O:=W.from_ i hi
   simp only [Mi.eq_2,FL hi,cT,Ar hi,Ar (show i<lv.length by omega),BQ,wT i]
   refine Cf.bind (A:=fun _=>True) (Be (fun _=>Ao trivial) fun _=>Cf.bind (Eo O.1 (by omega)) fun _ _ _=>Ao trivial) fun cc _ _=>Be (fun _=>I (q,B,F,G,E,H) trivial) fun _=>?_
   refine Cf.bind (Eo O.1 (by omega)) fun sl _ _=>Cf.bind (AfW v (AQ hi) Z) fun r _ _=>Cf.bind (Eo O.1 (by omega)) fun a1 _ _=>Cf.bind (Eo O.1 (by omega)) fun a2 _ _=>Be (fun _=>?_) fun _=>I (true,_,_,_,_,_) trivial
   exact Cf.bind tZ fun _ _ _=>Cf.bind tZ fun _ _ _=>I (true,_,_,_,_,_) trivial
  ·rintro m ⟨q,B,F,G,E,H⟩ _
   simp only [Mi.eq_2,Fh,cF]
   exact Ao trivial
theorem SpI{n:Nat}{s:Ax}:Cf (fun _=>True) (Vs n s):=⟨_,sp1,trivial⟩
theorem AaO{n:Nat}{b:AV}(v:Dd b){c:BG}{lv:List Bool}(I:lv.length=(HV b).length){H:List Bt}(Z:H.length<=1048576){od:List Int}(ho:od.length<=1048576)(Y:∀x∈od,0<=x∧x<((2*(pls b.b).length:Nat):Int))(W:1048577<=n):
 Cf (fun r=>mG 0 r.1∨mG (2*(pls b.b).length) r.1) (fS n b c (HV b) lv H od):=by
 have O:=v.design
 have hl:=EJ O.short O.few.1 O.few.2.2
 have wc:DF b=((2*(pls b.b).length:Nat):Int):=by unfold DF;omega
 generalize hN:2*(pls b.b).length=N at*
 rw [fS,Py v W,BQ,wc,kE]
 simp only [Gc (show N<=1048576 by omega) (show 1<=268435456 by omega),Gc (show N<=1048576 by omega) (show 16<=268435456 by omega),BQ]
 refine IC (L:=fun m i (p:List Bool×List Ax×List Ax)=>Le n b c (HV b) lv H od _ m i p.1 p.2.1 p.2.2) od.length (fun _ p=>mG N ⟨p.1,p.2.1,p.2.2⟩) (Cf fun r=>mG 0 r.1∨mG N r.1) ?_ ?_ n 0 (List.replicate N false,List.replicate N ⟨0,0⟩,List.replicate N ⟨0,0⟩) (by omega) (by omega) ⟨by simp,by simp,by simp⟩
 ·rintro m i ⟨l1,l2,G⟩ hi ⟨E,B,F⟩ U
  have E:l1.length=N:=E
  have B:l2.length=N:=B
  have F:G.length=N:=F
  have J:=Y _ (AQ hi)
  simp only [Le.eq_2,FL hi,cT,Ar hi,BQ,wT i]
  refine Cf.bind (AfR v I Z (t:=⟨l1,l2,G⟩) (by rw [hN];exact⟨E,B,F⟩) W) fun r _ _=>Be (fun _=>U (l1,l2,G) ⟨E,B,F⟩) fun _=>Cf.bind SpI fun q _ _=>Be (fun _=>Ao (.inl ⟨rfl,rfl,rfl⟩)) fun _=>?_
  exact Cf.bind (Eo J.1 (by omega)) fun _ _ _=>Cf.bind (Eo J.1 (by omega)) fun _ _ _=>Cf.bind (Eo J.1 (by omega)) fun _ _ _=>U (_,_,_) ⟨by simpa using E,by simpa using B,by simpa using F⟩
 ·rintro m ⟨l1,l2,G⟩ h
  simp only [Le.eq_2,Fh,cF]
  exact Ao (.inr h)
theorem yU{n:Nat}{L:List Al}{lv:List Bool}{N:Nat}(W:Pb L N)(a1:lv.length=L.length)(hl:L.length<=10000)(hN:N<=1000)(hn:1048577<=n):
 Cf (fun r=>r.1.length<=N∧∀x∈r.1,0<=x∧x<(N:Int)) (jE n (N:Int) L lv):=by
 rw [jE,Gc (by omega) (by omega),BQ]
 refine Vt (L:=fun m (p:List Int×List Bool)=>JT n (N:Int) L lv _ m p.1 p.2) (fun p=>N-p.1.length) (fun p=>(p.1.length<=N∧p.2.length=N)∧∀x∈p.1,0<=x∧x<(N:Int)) (Cf fun r=>r.1.length<=N∧∀x∈r.1,0<=x∧x<(N:Int)) ?_ n ([],List.replicate N false) (by simp;omega) ⟨⟨by simp,by simp⟩,by simp⟩
 rintro m ⟨o,l⟩ ⟨⟨O,H⟩,Y⟩ ih
 have O:o.length<=N:=O
 have H:l.length=N:=H
 simp only [JT.eq_2]
 refine Be (fun c=>?_) fun _=>Ao ⟨O,Y⟩
 have c:o.length<N:=by have:=Cu c;omega
 rw [Gc (by omega) (by omega),BQ]
 refine IC (L:=fun E i (w:List Bool)=>If L lv l _ E i w) L.length (fun _ w=>w.length=N) (Cf fun r=>r.1.length<=N∧∀x∈r.1,0<=x∧x<(N:Int)) ?_ ?_ n 0 (List.replicate N false) (by omega) (by omega) (by simp)
 ·intro E i w hi U F
  have hf:=W.from_ i hi
  have ht:=W.to_ i hi
  simp only [If.eq_2,FL hi,cT,Ar hi,Ar (show i<lv.length by omega),BQ,wT i]
  refine Cf.bind (A:=fun _=>True) (Be (fun _=>Cf.bind (Eo hf.1 (by omega)) fun _ _ _=>Ao trivial) fun _=>Ao trivial) fun Z _ _=>Be (fun _=>Cf.bind (Eo ht.1 (by omega)) fun _ _ _=>F _ (by simpa using U)) fun _=>F w U
 ·intro E w U
  simp only [If.eq_2,Fh,cF]
  have I:∀i:Nat,i<=N->Cf (fun r=>r.1.length<=N∧∀x∈r.1,0<=x∧x<(N:Int)) ((cond ((i:Int)==(N:Int)) (some (([]:List Int),false)) (Option.bind (EU o [(i:Int)] 8) fun B=>(JT n (N:Int) L lv (fun J a0=>(some (J,true))) m B ((l.set ((i:Int)).toNat true)))))):=fun i hi=>
   Be (fun _=>Ao ⟨by simp,by simp⟩) fun q=>by
    have q:=AJ.1 q
    rw [CU (by simp;omega) (by omega),BQ]
    refine ih (o++[(i:Int)],_) ⟨⟨by simp;omega,by simpa using H⟩,fun x hx=>?_⟩ (by simp;omega)
    rcases CM.1 hx with h|h
    ·exact Y x h
    ·rw [Bb.1 h];omega
  refine IC (L:=fun E i (_:Unit)=>Ig (N:Int) l w _ E i) N (fun _ _=>True) (Cf fun r=>r.1.length<=N∧∀x∈r.1,0<=x∧x<(N:Int)) ?_ ?_ n 0 () (by omega) (by omega) trivial
  ·intro G i _ hi _ F
   simp only [Ig.eq_2,FL hi,cT,Ar (show i<l.length by omega),Ar (show i<w.length by omega),BQ,wT i]
   refine Cf.bind (A:=fun _=>True) (Cf.bind (A:=fun _=>True) (Be (fun _=>Ao trivial) fun _=>Ao trivial) fun _ _ _=>Ao trivial) fun Z _ _=>Be (fun _=>F () trivial) fun _=>I i (by omega)
  ·intro G _ _
   simp only [Ig.eq_2,Fh,cF,BQ,beq_self_eq_true,cT]
   exact Ao ⟨by simp,by simp⟩
theorem wX{n:Nat}{b:AV}{br:List Int}(I:Qz b)(F:br.length<=1048576)(E:1048577<=n):Cf (fun r=>(r !=0)=false->Dd b) (RN n b br):=by
 obtain⟨v,G,H⟩:=gF (n:=n) I E
 rw [RN,G,BQ]
 refine Be (fun _=>Ao fun h=>by cases h) fun q=>?_
 have B:=H.1 (by cases v<;>simp_all)
 have O:=IJ B
 rw [Sp B E,BQ]
 obtain⟨r,J,_⟩:=Rs1 (n:=n) (br:=br) (N:=((HV b).length:Int)) F ⟨by omega,by omega⟩ E
 rw [J,BQ]
 exact Be (fun _=>Ao fun h=>by cases h) fun _=>Ao fun _=>B
theorem AdO{n:Nat}{b:AV}{br:List Int}(I:Qz b)(B:br.length<=1048576)(E:1048577<=n):Cf (fun r=>r.1.length<=156∧((r.2 !=0)=false->Dd b∧∀x∈r.1,0<=x∧x<((2*(pls b.b).length:Nat):Int))) (Tn n b br):=by
 rw [Tn]
 refine Cf.bind (wX I B E) fun r _ H=>Be (fun q=>Ao ⟨by simp,fun h=>by rw [show(r !=0)=false from h]at q;cases q⟩) fun q=>?_
 have v:=H q
 have F:=v.design
 have O:=EJ F.short F.few.1 F.few.2.2
 have U:=IJ v
 have J:DF b=((2*(pls b.b).length:Nat):Int):=by unfold DF;omega
 rw [Sp v E,BQ,Py v E,BQ,pH (by omega) B E,BQ,J]
 exact Cf.bind (yU (PA v) (Gu _ _ _) (by omega) (by omega) E) fun o _ G=>Be (fun _=>Ao ⟨by simp,fun h=>by cases h⟩) fun _=>Ao ⟨by have:=G.1;show o.1.length<=156;omega,fun _=>⟨v,G.2⟩⟩
theorem AeQ{n:Nat}{c:BG}(h:c.d.size<=1048576)(E:1048577<=n):Cf (fun _=>True) (Vm n c):=by
 rw [Vm]
 refine IC (L:=fun m i (_:Unit)=>LB n c _ m i) ([c.b,c.c,c.f,c.g]).length (fun _ _=>True) (Cf fun _=>True) ?_ ?_ n 0 () (by simp) (by simp;omega) trivial
 ·intro m i _ hi _ F
  have B:i<4:=hi
  simp only [LB.eq_2,FL hi,cT,Ar hi,BQ,Kz,wT i]
  exact Be (fun _=>Ao trivial) fun _=>F () trivial
 ·intro m _ _
  simp only [LB.eq_2,Fh,cF,xY h E,BQ]
  exact Ao trivial
theorem AbG{n:Nat}{b:AV}(v:Dd b){B:List Bt}(J:B.length<=1048576)(F:1048577<=n):Cf (fun _=>True) (cB n b B):=by
 rw [cB,Py v F,BQ]
 refine IC (L:=fun m i (_:Unit)=>NL n B (DF b) _ m i) B.length (fun _ _=>True) (Cf fun _=>True) ?_ ?_ n 0 () (by omega) (by omega) trivial
 ·intro m i _ hi _ E
  simp only [NL.eq_2,FL hi,cT,Ar hi,BQ,Kz,sp1,YU,wT i]
  refine Cf.bind (A:=fun _=>True) (Be (fun _=>Ao trivial) fun _=>Cf.bind (A:=fun _=>True) (Be (fun q=>?_) fun _=>Ao trivial) fun _ _ _=>Ao trivial) fun I _ _=>Cf.bind (A:=fun _=>True) (Be (fun _=>Ao trivial) fun _=>Ao trivial) fun G _ _=>Cf.bind (A:=fun _=>True) (Be (fun _=>Ao trivial) fun _=>Ao trivial) fun H _ _=>Be (fun _=>Ao trivial) fun _=>E () trivial
  have q:=Cu q
  have w:wrap .i64 ((i:Int)-1)=((i-1:Nat):Int):=by rw [BV (by omega) (by omega)];omega
  rw [w,Ar (show i-1<B.length by omega)]
  exact Ao trivial
 ·intro m _ _
  simp only [NL.eq_2,Fh,cF]
  exact Ao trivial
theorem PTm{n:Nat}{b:AV}{c:BG}{br:List Int}{J:List Bt}(H:Qz b)(hc:c.d.size<=1048576)(E:br.length<=1048576)(U:J.length<=1048576)(B:1048577<=n):Cf (fun r=>∃N,N<=156∧mG N r.1) (fT n b c br J):=by
 have O:∃N,N<=156∧mG N (BW.mk [] [] []):=⟨0,by omega,rfl,rfl,rfl⟩
 rw [fT]
 refine Cf.bind (A:=fun r=>r.1.length<=156∧((r.2 !=0)=false->Dd b∧∀x∈r.1,0<=x∧x<((2*(pls b.b).length:Nat):Int))) ?_ fun r _ G=>Be (fun _=>Ao O) fun q=>?_
 ·rw [kL]
  obtain⟨v,W,Z⟩:=gF (n:=n) H B
  rw [W,BQ]
  refine Cf.bind (A:=fun x=>x=false->v=true) (Be (fun _=>Ao fun h=>by cases h) fun q=>Cf.bind (AeQ hc B) fun _ _ _=>Ao fun _=>by cases v<;>simp_all) fun x _ hx=>Be (fun _=>Ao ⟨by simp,fun h=>by cases h⟩) fun q=>?_
  have Y:=Z.1 (hx q)
  refine Cf.bind (wX H E B) fun r _ G=>Cf.bind (A:=fun _=>True) (Be (fun _=>Ao trivial) fun _=>Cf.bind (AbG Y U B) fun _ _ _=>Ao trivial) fun x _ _=>Be (fun _=>Ao ⟨by simp,fun h=>by cases h⟩) fun _=>Cf.bind (AdO H E B) fun o _ F=>Ao F
 ·obtain⟨v,F⟩:=G.2 q
  have I:=v.design
  have hl:=EJ I.short I.few.1 I.few.2.2
  have hL:=IJ v
  rw [Sp v B,BQ,pH (by omega) E B,BQ]
  refine Cf.bind (AaO v (Gu _ _ _) U (by have:=G.1;omega) F B) fun t _ ht=>Be (fun _=>Ao O) fun _=>Ao ?_
  rcases ht with h|h
  ·exact⟨0,by omega,h⟩
  ·exact⟨_,by omega,h⟩
def ct(l:List Bool):Nat:=l.countP fun b=>b
theorem eM:∀{l:List Bool} {i:Nat},i<l.length->gb l i=true->ct (l.set i false)+1=ct l
 |[],i,h,_=>by simp at h
 |b::l,0,_,h=>by
  have h:b=true:=h
  subst h;simp [ct]
 |b::l,i+1,hi,h=>by
  have B:=eM (l:=l) (i:=i) (by simpa using hi) h
  unfold ct at B ⊢
  simp only [List.set_cons_succ,FD];omega
theorem Slf{n:Nat}{L:List Al}{lv:List Bool}{v:Int}(B:lv.length=L.length)(F:L.length<=10000)(G:1048577<=n):
 Cf (fun r=>r=true->∃k,∃h:k<L.length,gb lv k=true∧L[k].d=v∧L[k].b=v) (fL n L lv v):=by
 rw [fL]
 refine IC (L:=fun m i (_:Unit)=>Ma L lv v _ m i) L.length (fun _ _=>True) (Cf fun r=>r=true->∃k,∃h:k<L.length,gb lv k=true∧L[k].d=v∧L[k].b=v) ?_ ?_ n 0 () (by omega) (by omega) trivial
 ·intro m i _ hi _ E
  simp only [Ma.eq_2,FL hi,cT,Ar hi,JB (show i<lv.length by omega),BQ,EH,wT i]
  refine Be (fun q=>Ao fun _=>?_) fun _=>E () trivial
  simp only [AG,BB]at q
  exact⟨i,hi,q.1.1,q.1.2,q.2⟩
 ·intro m _ _
  simp only [Ma.eq_2,Fh,cF]
  exact Ao fun h=>by cases h
def Vp(L:List Al)(lv:List Bool)(N:Nat)(x:List Int):Prop:=x.length<=N∧∃k,∃h:k<L.length,gb lv k=true∧L[k].c=1∧L[k].d∈x∧L[k].b∈x
structure pP(N v i:Nat)(r1 r2:List Bool)(x:List Int):Prop where
 few:x.length<=i
 iff:∀y,y∈x↔∃w:Nat,w<i∧y=(w:Int)∧gb r1 w=true∧gb r2 w=true
 two:x.length>1->∃w:Nat,w<N∧w≠v∧gb r1 w=true∧gb r2 w=true
theorem pP.skip{N v i:Nat}{E B:List Bool}{x:List Int}(h:pP N v i E B x)(c:(gb E i&&gb B i)=false):pP N v (i+1) E B x:=
 ⟨by have:=h.few;omega,fun y=>(h.iff y).trans ⟨fun⟨w,a,b⟩=>⟨w,by omega,b⟩,fun⟨w,a,b,d,e⟩=>⟨w,by
  by_cases q:w=i
  ·subst q;rw [d,e]at c;cases c
  ·omega,b,d,e⟩⟩,h.two⟩
theorem pP.add{N v i:Nat}{E B:List Bool}{x:List Int}(h:pP N v i E B x)(hi:i<N)(c:(gb E i&&gb B i)=true):pP N v (i+1) E B (x++[(i:Int)]):=by
 simp only [AG]at c
 refine⟨by have:=h.few;simp;omega,fun y=>?_,fun g=>?_⟩
 ·rw [CM,Bb,h.iff y]
  constructor
  ·rintro (⟨w,a,b⟩|e)
   ·exact⟨w,by omega,b⟩
   ·exact⟨i,by omega,e,c.1,c.2⟩
  ·rintro ⟨w,a,b,d⟩
   by_cases q:w=i
   ·subst q;exact .inr b
   ·exact .inl ⟨w,by omega,b,d⟩
 ·have g:0<x.length:=by simp at g;omega
  obtain⟨w,a,_,d,e⟩:=(h.iff x[0]).1 (AQ g)
  by_cases q:w=v
  ·exact⟨i,hi,by omega,c.1,c.2⟩
  ·exact⟨w,by omega,q,d,e⟩
theorem Lps{n:Nat}{L:List Al}{lv:List Bool}{N:Nat}(U:Pb L N)(I:lv.length=L.length)(hl:L.length<=10000)(hN:N<=1000)
 (hw:∀k (h:k<L.length) j (g:j<L.length),L[k].b=L[j].d->L[k].c=1∨L[j].c=1) (hn:1048577<=n):Cf (fun r=>∀x∈r,Vp L lv N x) (uE n (N:Int) L lv):=by
 rw [uE,Gc (by omega) (by omega),BQ]
 refine IC (L:=fun m i (p:List (List Int)×List Bool)=>MP n (N:Int) L lv _ m p.1 i p.2) N (fun i p=>(p.1.length<=i∧∀x∈p.1,Vp L lv N x)∧p.2.length=N) (Cf fun r=>∀x∈r,Vp L lv N x) ?_ ?_ n 0 ([],List.replicate N false) (by omega) (by omega) ⟨⟨by simp,by simp⟩,by simp⟩
 ·rintro m i ⟨o,l⟩ hi ⟨⟨h1,J⟩,O⟩ ih
  have h1:o.length<=i:=h1
  have O:l.length=N:=O
  simp only [MP.eq_2,FL hi,cT,Ar (show i<l.length by omega),BQ,wT i]
  refine Be (fun _=>ih (o,l) ⟨⟨by show o.length<=i+1;omega,J⟩,O⟩) fun _=>?_
  obtain⟨r1,e1,Z⟩:=Rc1 (n:=n) U I hl hN hi hn
  obtain⟨r2,e2,k2⟩:=RcB (n:=n) U I hl hN hi hn
  have l1:=Z.len;have l2:=k2.len
  rw [e1,BQ,e2,BQ]
  refine IC (L:=fun m' j (p:List Int×List Bool)=>Ol (N:Int) r1 r2 _ m' p.1 j p.2) N (fun j p=>pP N i j r1 r2 p.1∧p.2.length=N) (Cf fun r=>∀x∈r,Vp L lv N x) ?_ ?_ n 0 ([],l) (by omega) (by omega) ⟨⟨Bj _,fun y=>⟨fun h=>(by cases h),fun⟨w,h,_⟩=>absurd h (AX w)⟩,fun h=>(by simp at h)⟩,O⟩
  ·rintro m' j ⟨x,d⟩ hj ⟨G,E⟩ kk
   have E:d.length=N:=E
   have H:=G.few
   have H:x.length<=j:=H
   simp only [Ol.eq_2,FL hj,cT,JB (show j<r1.length by omega),JB (show j<r2.length by omega),BQ,EH,wT j]
   refine Be (fun c=>?_) fun c=>kk (x,d) ⟨G.skip c,E⟩
   rw [CU (by simp;omega) (by omega),BQ,Ar (show j<d.length by omega),BQ]
   exact kk (x++[(j:Int)],_) ⟨G.add hj c,by simpa using E⟩
  ·rintro m' ⟨x,d⟩ ⟨G,E⟩
   have H:=G.few
   have H:x.length<=N:=H
   have B:∀u:Int,0<=u∧u<(N:Int)->LJ L lv (fun y=>y=(i:Int)) u->LJ L lv (fun y=>y=u) (i:Int)->u∈x:=fun u hu a b=>by
    obtain⟨w,ew⟩:=Ap hu.1
    have ew:u=(w:Int):=ew
    subst ew
    exact(G.iff _).2 ⟨w,by omega,rfl,(Z.iff w (by omega)).2 a,(k2.iff w (by omega)).2 (LJ.vr b)⟩
   simp only [Ol.eq_2,Fh,cF]
   refine Cf.bind (A:=fun c=>c=true->Vp L lv N x) (Be (fun c=>Ao fun _=>?_) fun _=>Cf.bind (Slf I hl hn) fun r _ hr=>Ao fun q=>?_) fun c _ hc=>Be (fun q=>?_) fun _=>ih (o,d) ⟨⟨by show o.length<=i+1;omega,J⟩,E⟩
   ·have c:=Cu c
    obtain⟨w,wN,ne,a,b⟩:=G.two (by show x.length>1;omega)
    obtain⟨k,F,c1,W,⟨Y,c4⟩,c5,c6⟩:=ZH hw (v:=(i:Int)) (w:=(w:Int)) (by omega) ((Z.iff w wN).1 a) (LJ.rv ((k2.iff w wN).1 b))
    exact⟨H,k,F,c1,W,B _ (U.from_ k F) Y c4,B _ (U.to_ k F) c5 c6⟩
   ·obtain⟨k,F,c1,W,Y⟩:=hr q
    have hv:=B (i:Int) ⟨by omega,by omega⟩ (.src rfl) (.src rfl)
    exact⟨H,k,F,c1,(hw k F k F (by rw [W,Y])).elim id id,by rw [W];exact hv,by rw [Y];exact hv⟩
   ·rw [CU (by simp;omega) (by omega),BQ]
    refine ih (o++[x],d) ⟨⟨by simp;omega,fun y hy=>?_⟩,E⟩
    rcases CM.1 hy with h|h
    ·exact J y h
    ·rw [Bb.1 h];exact hc q
 ·rintro m ⟨o,l⟩ ⟨⟨h1,J⟩,O⟩
  simp only [MP.eq_2,Fh,cF]
  exact Ao J
theorem iF{b:AV}(v:Dd b):∀k (h:k<(HV b).length) j (g:j<(HV b).length),(HV b)[k].b=(HV b)[j].d->(HV b)[k].c=1∨(HV b)[j].c=1:=by
 intro k E j F e
 rcases Rg v _ (AQ E)with c|⟨f,t,q,i,h⟩
 ·exact .inl c
 ·rcases Rg v _ (AQ F)with c|⟨G,H,J,I,B⟩
  ·exact .inr c
  ·exfalso
   have:=h.to_;have:=B.from_
   obtain rfl:t=G:=by omega
   obtain⟨_,a,_⟩:=h.snk
   obtain⟨_,b⟩:=B.drv
   rw [a]at b;cases b
theorem AaB{n:Nat}{b:AV}(v:Dd b)(F:1048577<=n):Cf (fun r=>r.length<=6000) (sK n b):=by
 have O:=v.design
 have hl:=EJ O.short O.few.1 O.few.2.2
 have hL:=IJ v
 have I:=PA v
 have U:=iF v
 have Z:DF b=((2*(pls b.b).length:Nat):Int):=by unfold DF;omega
 rw [sK,Sp v F,BQ,pH (by omega) (by simp) F,BQ,Py v F,BQ,Z]
 generalize hX:HV b=X at*
 have lt:ct (HZ (fun k (_:Al)=>[!(([]:List Int).any fun y=>y==(k:Int))]) 0 X)<=X.length:=by
  have:=CW (p:=fun b:Bool=>b) (l:=HZ (fun k (_:Al)=>[!(([]:List Int).any fun y=>y==(k:Int))]) 0 X)
  rw [Gu]at this;exact this
 refine Vt (L:=fun m l=>Rl n X _ _ m l) ct (fun l=>l.length=X.length) (Cf fun r=>r.length<=6000) ?_ n _ (by omega) (Gu _ _ _)
 intro m l G ih
 simp only [Rl.eq_2]
 refine Cf.bind (Lps I G (by omega) (by omega) U F) fun r _ hr=>Be (fun _=>?_) fun q=>?_
 ·refine IC (L:=fun m i s=>OM l _ m s i) l.length (fun i s=>s.length<=i) (Cf fun r=>r.length<=6000) ?_ ?_ n 0 [] (by omega) (by omega) (Bj _)
  ·intro m i s hi hs E
   simp only [OM.eq_2,FL hi,cT,Ar hi,BQ,wT i]
   refine Be (fun _=>?_) fun _=>E s (by omega)
   rw [CU (by simp;omega) (by omega),BQ]
   exact E _ (by simp;omega)
  ·intro m s hs
   simp only [OM.eq_2,Fh,cF]
   exact Ao (by omega)
 ·have W:0<r.length:=by have:=AJ.1 q;omega
  obtain⟨gl,k,hk,g1,g2,g3,g4⟩:=hr r[0] (AQ W)
  have Y:AU r 0=some r[0]:=Ar W
  have B:∀{y:Int},y∈r[0]->(r[0].any fun z=>z==y)=true:=fun h=>List.any_eq_true.2 ⟨_,h,by simp⟩
  refine IC (L:=fun J i (z:Int)=>Oq n X l r _ J z i) X.length (fun i z=>(∃q:Nat,z=(q:Int)∧q<X.length∧gb l q=true)∨i<=k) (Cf fun r=>r.length<=6000) ?_ ?_ n 0 (-1) (by omega) (by omega) (.inr (Nat.zero_le _))
  ·intro J i z hi H E
   simp only [Oq.eq_2,FL hi,cT,Ar hi,JB (show i<l.length by omega),BQ,EH,Y,sZ (n:=n) (br:=r[0]) (show r[0].length<=1048576 by omega) F,wT i]
   refine Be (fun c=>E (i:Int) (.inl ⟨i,rfl,hi,?_⟩)) fun c=>E z ?_
   ·simp only [AG]at c
    exact c.1.1.1
   ·rcases H with h|h
    ·exact .inl h
    ·refine .inr ?_
     rcases GU i k with h2|h2
     ·omega
     ·obtain rfl:i=k:=by omega
      rw [g1,g2,B g3,B g4]at c
      simp at c
  ·intro J z H
   simp only [Oq.eq_2,Fh,cF]
   rcases H with ⟨q,rfl,h1,h2⟩|h
   ·rw [JB (show q<l.length by omega),BQ,BZ]
    have:=eM (show q<l.length by omega) h2
    exact ih _ (by simpa using G) (by omega)
   ·omega
theorem DCo{n:Nat}{c:List Int}(B:OZ c){s:AA}(H:HN c s):Cf (fun r=>r.1.d.size<=1048576∧HN c r.2) (ZU n s):=by
 have e:=H.code
 have I:∀x∈[(ByteArray.mk #[115,108,111,119]),(ByteArray.mk #[102,97,115,116]),(ByteArray.mk #[116,121,112])],x.size<=1048576:=by
  intro x E
  simp only [DX,Ec,or_false]at E
  rcases E with rfl|rfl|rfl<;>decide
 rw [ZU]
 refine Cf.bind (Nx B H 3) fun r1 _ ⟨W,z0,z1⟩=>Cf.bind (Cf.get z0 (by simp;omega) I) fun x _ E=>Cf.bind (Nx B (W.mk2 e) 20) fun r2 _ ⟨J,_⟩=>Cf.bind (Nx B (J.mk2 e) 20) fun r3 _ ⟨Z,_⟩=>Cf.bind (Nx B (Z.mk2 e) 60) fun r4 _ ⟨U,_⟩=>Cf.bind (Nx B (U.mk2 e) 40) fun r5 _ ⟨Y,_⟩=>Cf.bind (Nx B (Y.mk2 e) 30) fun r6 _ ⟨F,_⟩=>?_
 refine Be (fun _=>Ao ⟨E,F.mk2 e⟩) fun _=>Be (fun _=>Cf.bind (Nx B (F.mk2 e) 3) fun O _ ⟨G,y0,y1⟩=>Cf.bind (Eo y0 (by simp;omega)) fun _ _ _=>Ao ⟨E,G.mk2 e⟩) fun _=>Be (fun _=>Cf.bind (Nx B (F.mk2 e) 2) fun O _ ⟨G,_⟩=>Ao ⟨E,G.mk2 e⟩) fun _=>Be (fun _=>Ao ⟨(by decide:(ByteArray.mk #[]).size<=1048576),F.mk2 e⟩) fun _=>Ao ⟨E,F.mk2 e⟩
theorem DSr{n:Nat}(hn:1048577<=n){c:List Int}(E:OZ c){s:AA}(hs:HN c s){b:AV}(hb:Qz b):Cf (fun r=>r.1.length<=1000∧HN c r.2) (oS n s b):=by
 have e:=hs.code
 obtain⟨v,e1,hv⟩:=gF (n:=n) hb hn
 rw [oS,e1,BQ]
 refine Be (fun _=>Ao ⟨by simp,hs⟩) fun q=>?_
 have vb:=hv.1 (by cases v<;>simp_all)
 have H:=vb.design
 have hl:=EJ H.short H.few.1 H.few.2.2
 rw [SF H.short H.few.1 H.few.2.2 hn,BQ]
 have a0:((pls b.b).map Iu).length<=78:=by simpa using hl
 generalize (pls b.b).map Iu=I at a0 ⊢
 refine IC (L:=fun m i (p:List Bt×Int×Int)=>Pn n s I _ m p.1 i p.2.1 p.2.2) I.length (fun i p=>p.1.length<=2*i∧HN c (AA.mk s.d p.2.1 p.2.2)) (Cf fun r=>r.1.length<=1000∧HN c r.2) ?_ ?_ n 0 ([],s.c,s.b) (by omega) (by omega) ⟨by simp,hs⟩
 ·rintro m i ⟨l,a,d⟩ hi ⟨G,O⟩ ih
  have G:l.length<=2*i:=G
  simp only [Pn.eq_2,FL hi,cT,Ar hi,BQ,EH,wT i]
  generalize (decide (I[i].c<0)&&I[i].d)=a1
  refine IC (L:=fun m' k (p:List Bt×Int×Int)=>Nw n s (i:Int) a1 _ m' p.1 k p.2.1 p.2.2) 2 (fun k p=>p.1.length<=2*i+k∧HN c (AA.mk s.d p.2.1 p.2.2)) (Cf fun r=>r.1.length<=1000∧HN c r.2) ?_ ?_ n 0 (l,a,d) (by omega) (by omega) ⟨G,O⟩
  ·rintro m' k ⟨l,a,d⟩ hk ⟨Y,W⟩ kk
   have Y:l.length<=2*i+k:=Y
   simp only [Nw.eq_2,show((2:Int))=((2:Nat):Int)from rfl,FL hk,cT,wT k]
   refine Cf.bind (A:=fun x:Bool×Int×Int=>HN c (AA.mk s.d x.2.1 x.2.2)) (Be (fun _=>Cf.bind (Nx E W 8) fun r _ ⟨F,_⟩=>Ao (F.mk2 e)) fun _=>Ao W) fun x _ hx=>Cf.bind (A:=fun x:Bool×Int×Int=>HN c (AA.mk s.d x.2.1 x.2.2)) (Be (fun _=>Ao hx) fun _=>Cf.bind (Nx E hx 24) fun r _ ⟨F,_⟩=>Ao (F.mk2 e)) fun y _ hy=>Be (fun _=>?_) fun _=>kk (l,y.2.1,y.2.2) ⟨by show l.length<=_;omega,hy⟩
   refine Cf.bind (Nx E hy 200) fun U _ ⟨F,_⟩=>Cf.bind (Nx E (F.mk2 e) 30) fun r2 _ ⟨Z,_⟩=>Cf.bind (Nx E (Z.mk2 e) 40) fun r3 _ ⟨q3,_⟩=>Cf.bind (Nx E (q3.mk2 e) 12) fun r4 _ ⟨q4,_⟩=>?_
   rw [CU (by simp;omega) (by omega),BQ]
   exact kk (_,_,_) ⟨by simp;omega,q4.mk2 e⟩
  ·rintro m' ⟨l,a,d⟩ ⟨Y,W⟩
   simp only [Nw.eq_2,show decide (((2:Nat):Int)<2)=false from rfl,cF]
   exact ih (l,a,d) ⟨Y,W⟩
 ·rintro m ⟨l,a,d⟩ ⟨G,O⟩
  have G:l.length<=2*I.length:=G
  simp only [Pn.eq_2,Fh,cF]
  refine Be (fun g=>?_) fun _=>Ao ⟨by show l.length<=1000;omega,O⟩
  have g:=Cu g
  refine Cf.bind (Nx E O _) fun U _ ⟨F,z0,z1⟩=>Cf.bind (Nx E (F.mk2 e) 30) fun r2 _ ⟨Z,_⟩=>?_
  have z2:U.1<(l.length:Int):=by omega
  have J:Cf (fun _=>True) (AU l U.1):=(Eo z0 z2).weaken fun _ _=>trivial
  have B:∀x:Bt,Cf (fun r=>r.1.length<=1000∧HN c r.2) (some (l.set U.1.toNat x,AA.mk s.d r2.2.c r2.2.b)):=fun x=>Ao ⟨by simp;omega,Z.mk2 e⟩
  refine Be (fun _=>Cf.bind (Eo (Gt 0) (by omega)) fun _ _ _=>Cf.bind J fun _ _ _=>B _) fun _=>Be (fun _=>Cf.bind J fun _ _ _=>Cf.bind J fun _ _ _=>B _) fun _=>Be (fun _=>Cf.bind J fun _ _ _=>B _) fun _=>Be (fun _=>Cf.bind J fun _ _ _=>B _) fun _=>Ao ⟨by show l.length<=1000;omega,Z.mk2 e⟩
structure dA(b:AV)(c:BG)(br:List Int)(ss:List Bt):Prop where
 blk:Ru b
 cor:c.d.size<=1048576
 few:br.length<=6001
 src:ss.length<=1000
theorem D12{n:Nat}(Z:1048577<=n){c:List Int}(W:OZ c){s:AA}(hs:HN c s){O:RE}{g:AV×BG×List Int×List Bt×AA->Option Unit}(hg:∀b co br ss J,dA b co br ss->HN c J->g (b,co,br,ss,J)=some ()):fC n O s g=some ():=by
 have e:=hs.code
 rw [fC];try simp only [jn]
 refine D09 Z W hs fun b J U F=>Qw (DCo W (F.mk2 e)) fun co ⟨a1,h1⟩=>Qw (Nx W (h1.mk2 e) 3) fun r ⟨h2,_⟩=>?_
 have go:∀(b:AV) (J:AA),Ru b->HN c J->(Option.bind (ZB n ((AA.mk s.d J.c J.b)) b) fun B=>(Option.bind (WP n b) fun a0=>(Option.bind (cond (a0&&((((B.1.length:Int))==0))) (Option.bind (Hn n ((AA.mk s.d B.2.c B.2.b)) 6) fun G=>(some (decide (G.1>0),G.2.c,G.2.b))) (some (false,B.2.c,B.2.b))) fun E=>(cond E.1 (Option.bind (sK n b) fun a2=>(Option.bind (oS n ((AA.mk s.d E.2.1 E.2.2)) b) fun H=>(g (b,co.1,a2,H.1,(AA.mk s.d H.2.c H.2.b))))) (Option.bind (oS n ((AA.mk s.d E.2.1 E.2.2)) b) fun I=>(g (b,co.1,B.1,I.1,(AA.mk s.d I.2.c I.2.b))))))))=some ():=fun b J U F=>by
  refine Qw (DBr Z W (F.mk2 e) U.sm) fun br ⟨a4,h3⟩=>?_
  obtain⟨v,e1,hv⟩:=gF (n:=n) U.sm Z
  rw [e1,BQ]
  refine Qw (A:=fun x:Bool×Int×Int=>HN c (AA.mk s.d x.2.1 x.2.2)∧(x.1=true->v=true)) (Be (fun q=>Cf.bind (Nx W (h3.mk2 e) 6) fun r _ ⟨q1,_⟩=>Ao ⟨q1.mk2 e,fun _=>by cases v<;>simp_all⟩) fun _=>Ao ⟨h3.mk2 e,fun h=>by cases h⟩) fun x ⟨hx,a3⟩=>Iz (fun q=>?_) fun _=>Qw (DSr Z W hx U.sm) fun ss ⟨Y,h4⟩=>hg _ _ _ _ _ ⟨U,a1,a4,Y⟩ (h4.mk2 e)
  exact Qw (AaB (hv.1 (a3 q)) Z) fun bk a5=>Qw (DSr Z W hx U.sm) fun ss ⟨Y,h4⟩=>hg _ _ _ _ _ ⟨U,a1,by omega,Y⟩ (h4.mk2 e)
 exact Iz (fun _=>D07 Z W (h2.mk2 e) (by omega) fun b J U _ _ F=>go b J U F) fun _=>go b r.2 U h2
structure TmW(t:BW):Prop where
 r:t.c.length<=156
 a:t.b.length<=156
 s:t.f.length<=156
theorem DTm{n:Nat}(Z:1048577<=n){c:List Int}(I:OZ c){s:AA}(O:HN c s){b:AV}{J:BG}{br:List Int}{U:List Bt}(h:dA b J br U):Cf (fun r=>TmW r.1∧HN c r.2) (dL n s b J br U):=by
 have e:=O.code
 rw [dL]
 refine Cf.bind (PTm (c:=J) h.blk.sm h.cor (by have:=h.few;omega) (by have:=h.src;omega) Z) fun t _ ⟨N,hN,t1,t2,t3⟩=>?_
 have B:TmW t.1:=⟨by omega,by omega,by omega⟩
 refine Cf.bind (A:=fun x:Bool×Int×Int=>HN c (AA.mk s.d x.2.1 x.2.2)∧(x.1=false->0<N)) (Be (fun _=>Ao ⟨O,fun h=>by cases h⟩) fun q=>Cf.bind (Nx I O 8) fun r _ ⟨H,_⟩=>Ao ⟨H.mk2 e,fun _=>by have:=AJ.1 q;omega⟩) fun x _ ⟨Y,W⟩=>Be (fun _=>Ao ⟨B,Y⟩) fun q=>?_
 have W:=W q
 refine Cf.bind (Nx I Y _) fun G _ ⟨H,E,z1⟩=>Cf.bind (Nx I (H.mk2 e) 4) fun r2 _ ⟨F,_⟩=>?_
 have z2:G.1<(N:Int):=by omega
 refine Be (fun _=>Cf.bind (Eo E (by omega)) fun _ _ _=>Cf.bind (Eo E (by omega)) fun _ _ _=>Ao ⟨⟨by show(t.1.c.set _ _).length<=156;simp;omega,B.a,B.s⟩,F.mk2 e⟩) fun _=>Be (fun _=>Cf.bind (Eo E (by omega)) fun _ _ _=>Cf.bind (Eo E (by omega)) fun _ _ _=>Ao ⟨⟨B.r,by show(t.1.b.set _ _).length<=156;simp;omega,B.s⟩,F.mk2 e⟩) fun _=>Be (fun _=>Cf.bind (Eo E (by omega)) fun _ _ _=>Cf.bind (Eo E (by omega)) fun _ _ _=>Ao ⟨⟨B.r,B.a,by show(t.1.f.set _ _).length<=156;simp;omega⟩,F.mk2 e⟩) fun _=>?_
 rw [show PP t.1.f 0 G.1=some ((t.1.f.take G.1.toNat).drop (0:Int).toNat)from BE ⟨by omega,by omega,by omega⟩,BQ]
 exact Ao ⟨⟨B.r,B.a,by simp;omega⟩,F.mk2 e⟩
theorem DTg{n:Nat}(hn:1048577<=n){c:List Int}(E:OZ c){s:AA}(hs:HN c s){b:AV}(hb:Qz b):Cf (fun r=>r.1.length<=1000∧HN c r.2) (cG n s b):=by
 have e:=hs.code
 obtain⟨v,e1,hv⟩:=gF (n:=n) hb hn
 rw [cG,e1,BQ]
 refine Be (fun _=>Ao ⟨by simp,hs⟩) fun q=>?_
 have vb:=hv.1 (by cases v<;>simp_all)
 have G:=vb.design
 have hl:=EJ G.short G.few.1 G.few.2.2
 rw [SF G.short G.few.1 G.few.2.2 hn,BQ]
 have Y:((pls b.b).map Iu).length<=78:=by simpa using hl
 generalize (pls b.b).map Iu=Z at Y ⊢
 refine IC (L:=fun m i (p:List Af×Int×Int)=>MN n s Z _ m p.1 i p.2.1 p.2.2) Z.length (fun i p=>p.1.length<=2*i∧HN c (AA.mk s.d p.2.1 p.2.2)) (Cf fun r=>r.1.length<=1000∧HN c r.2) ?_ ?_ n 0 ([],s.c,s.b) (by omega) (by omega) ⟨by simp,hs⟩
 ·rintro m i ⟨l,a,d⟩ hi ⟨F,J⟩ ih
  have F:l.length<=2*i:=F
  simp only [MN.eq_2,FL hi,cT,Ar hi,BQ,wT i]
  refine Cf.bind (A:=fun _=>True) (Be (fun _=>Ao trivial) fun _=>Ao trivial) fun a0 _ _=>Cf.bind (A:=fun _=>True) (Be (fun _=>Ao trivial) fun _=>Cf.bind (A:=fun _=>True) (Be (fun _=>Ao trivial) fun _=>Ao trivial) fun _ _ _=>Ao trivial) fun I _ _=>?_
  refine IC (L:=fun m' k (p:List Af×Int×Int)=>LO n s (i:Int) I _ m' p.1 k p.2.1 p.2.2) 2 (fun k p=>p.1.length<=2*i+k∧HN c (AA.mk s.d p.2.1 p.2.2)) (Cf fun r=>r.1.length<=1000∧HN c r.2) ?_ ?_ n 0 (l,a,d) (by omega) (by omega) ⟨F,J⟩
  ·rintro m' k ⟨l,a,d⟩ hk ⟨U,O⟩ kk
   have U:l.length<=2*i+k:=U
   simp only [LO.eq_2,show((2:Int))=((2:Nat):Int)from rfl,FL hk,cT,wT k]
   refine Cf.bind (A:=fun x:Bool×Int×Int=>HN c (AA.mk s.d x.2.1 x.2.2)) (Be (fun _=>Cf.bind (Nx E O 3) fun r _ ⟨B,_⟩=>Ao (B.mk2 e)) fun _=>Ao O) fun x _ hx=>Cf.bind (A:=fun x:Bool×Int×Int=>HN c (AA.mk s.d x.2.1 x.2.2)) (Be (fun _=>Ao hx) fun _=>Cf.bind (Nx E hx 24) fun r _ ⟨B,_⟩=>Ao (B.mk2 e)) fun y _ hy=>Be (fun _=>?_) fun _=>kk (l,y.2.1,y.2.2) ⟨by show l.length<=_;omega,hy⟩
   refine Cf.bind (Nx E hy 400) fun W _ ⟨B,_⟩=>Cf.bind (Nx E (B.mk2 e) 300) fun r2 _ ⟨H,_⟩=>?_
   rw [CU (by simp;omega) (by omega),BQ]
   exact kk (_,_,_) ⟨by simp;omega,H.mk2 e⟩
  ·rintro m' ⟨l,a,d⟩ ⟨U,O⟩
   simp only [LO.eq_2,show decide (((2:Nat):Int)<2)=false from rfl,cF]
   exact ih (l,a,d) ⟨U,O⟩
 ·rintro m ⟨l,a,d⟩ ⟨F,J⟩
  have F:l.length<=2*Z.length:=F
  simp only [MN.eq_2,Fh,cF]
  refine Be (fun g=>?_) fun _=>Ao ⟨by show l.length<=1000;omega,J⟩
  have g:=Cu g
  refine Cf.bind (Nx E J _) fun W _ ⟨B,z0,z1⟩=>Cf.bind (Nx E (B.mk2 e) 30) fun r2 _ ⟨H,_⟩=>?_
  have z2:W.1<(l.length:Int):=by omega
  have gg:Cf (fun _=>True) (AU l W.1):=(Eo z0 z2).weaken fun _ _=>trivial
  refine Be (fun _=>Cf.bind (Eo (Gt 0) (by omega)) fun _ _ _=>Cf.bind gg fun _ _ _=>Ao ⟨by simp;omega,H.mk2 e⟩) fun _=>Be (fun _=>Cf.bind (Nx E (H.mk2 e) 4) fun r3 _ ⟨q3,y0,y1⟩=>Cf.bind (Eo y0 (by simp;omega)) fun _ _ _=>Cf.bind gg fun _ _ _=>Ao ⟨by simp;omega,q3.mk2 e⟩) fun _=>Be (fun _=>?_) fun _=>Ao ⟨by show l.length<=1000;omega,H.mk2 e⟩
  rw [Py vb hn,BQ]
  exact Cf.bind gg fun _ _ _=>Ao ⟨by simp;omega,H.mk2 e⟩
theorem D13{n:Nat}(I:1048577<=n){c:List Int}(H:OZ c){s:AA}(U:HN c s){O:RE}{g:AV×BG×List Int×BW×List Af×AA->Option Unit}(hg:∀b G br J t tg B,dA b G br J->TmW t->tg.length<=1000->HN c B->g (b,G,br,t,tg,B)=some ()):bC n O s g=some ():=by
 have e:=U.code
 rw [bC]
 exact D12 I H U fun b G br J B h E=>Qw (DTm I H (E.mk2 e) h) fun t ⟨Z,Y⟩=>Qw (DTg I H (Y.mk2 e) h.blk.sm) fun tg ⟨F,W⟩=>hg _ _ _ _ _ _ _ h Z F (W.mk2 e)
structure Tw(L:List Al)(lv:List Bool)(o:List Int):Prop where
 nodup:∀i (h:i<o.length),o[i] ∉ o.take i
 pre:∀i (h:i<o.length) k (hk:k<L.length) (hv:k<lv.length),lv[k]=true->L[k].b=o[i]->L[k].d∈o.take i
theorem Tw.snoc{L:List Al}{lv:List Bool}{o:List Int}{x:Int}(h:Tw L lv o)(I:x ∉ o)(H:∀k (B:k<L.length) (E:k<lv.length),lv[k]=true->L[k].b=x->L[k].d∈o):Tw L lv (o++[x]):=by
 refine⟨fun i hi=>?_,fun i hi k B E G F=>?_⟩
 ·by_cases c:i<o.length
  ·rw [List.getElem_append_left c,List.take_append_of_le_length (by omega)];exact h.nodup i c
  ·obtain rfl:i=o.length:=by simp at hi;omega
   simpa using I
 ·by_cases c:i<o.length
  ·rw [List.getElem_append_left c]at F
   rw [List.take_append_of_le_length (by omega)];exact h.pre i c k B E G F
  ·obtain rfl:i=o.length:=by simp at hi;omega
   have:L[k].b=x:=by simpa using F
   simpa using H k B E G this
theorem zQ{n:Nat}{L:List Al}{lv:List Bool}{N:Nat}(hL:Pb L N)(a5:lv.length=L.length)(hl:L.length<=10000)(hN:N<=1000)(hn:1048577<=n):
 Cf (fun r=>r.2=true->Tw L lv r.1∧N<=r.1.length) (jE n (N:Int) L lv):=by
 rw [jE,Gc (by omega) (by omega),BQ]
 refine Vt (L:=fun m (p:List Int×List Bool)=>JT n (N:Int) L lv _ m p.1 p.2) (fun p=>N-p.1.length) (fun p=>(p.1.length<=N∧p.2.length=N)∧Tw L lv p.1∧∀j (h:j<p.2.length),p.2[j]=true↔(j:Int)∈p.1) (Cf fun r=>r.2=true->Tw L lv r.1∧N<=r.1.length) ?_ n ([],List.replicate N false) (by simp;omega) ⟨⟨by simp,by simp⟩,⟨fun i h=>by simp at h,fun i h=>by simp at h⟩,fun j h=>by simp⟩
 rintro m ⟨o,l⟩ ⟨⟨h1,h2⟩,h3,J⟩ ih
 have h1:o.length<=N:=h1
 have h2:l.length=N:=h2
 have J:∀j (h:j<l.length),l[j]=true↔(j:Int)∈o:=J
 simp only [JT.eq_2]
 refine Be (fun c=>?_) fun c=>Ao fun _=>⟨h3,by show N<=o.length;have c:¬(o.length:Int)<(N:Int):=FI c;omega⟩
 have c:o.length<N:=by have:=Cu c;omega
 rw [Gc (by omega) (by omega),BQ]
 refine IC (L:=fun W i (w:List Bool)=>If L lv l _ W i w) L.length (fun i w=>w.length=N∧∀k (h:k<L.length) (F:k<lv.length),k<i->lv[k]=true->L[k].d ∉ o->w[L[k].b.toNat]? =some true) (Cf fun r=>r.2=true->Tw L lv r.1∧N<=r.1.length) ?_ ?_ n 0 (List.replicate N false) (by omega) (by omega) ⟨by simp,fun k h F H=>by omega⟩
 ·rintro W i w hi ⟨hw,H⟩ I
  have hf:=hL.from_ i hi
  have ht:=hL.to_ i hi
  have a3:i<lv.length:=by omega
  obtain⟨f,Z⟩:=Ap hf.1
  have Z:L[i].d=(f:Int):=Z
  have O:f<l.length:=by omega
  simp only [If.eq_2,FL hi,cT,Ar hi,Ar a3,BQ,wT i]
  refine Cf.bind (A:=fun cc=>cc=false->¬(lv[i]=true∧L[i].d ∉ o)) (Be (fun q=>?_) fun q=>Ao fun _ h=>by rw [q]at h;cases h.1) fun cc _ a2=>Be (fun _=>Cf.bind (Eo ht.1 (by omega)) fun _ _ _=>I _ ⟨by simpa using hw,?_⟩) fun q=>I w ⟨hw,?_⟩
  ·rw [Z,Ar O,BQ]
   exact Ao fun h hh=>hh.2 ((J f O).1 (by simpa using h))
  ·intro k h F a0 B E
   rw [EQ]
   by_cases e:L[i].b.toNat=L[k].b.toNat
   ·rw [BE e,BE (by have:=hL.to_ i hi;omega)]
   ·rw [BU e]
    by_cases ek:k=i
    ·subst ek;exact absurd rfl e
    ·exact H k h F (by omega) B E
  ·intro k h F a0 B E
   by_cases ek:k=i
   ·subst ek;exact absurd ⟨B,E⟩ (a2 q)
   ·exact H k h F (by omega) B E
 ·rintro W w ⟨hw,H⟩
  simp only [If.eq_2,Fh,cF]
  refine IC (L:=fun W i (_:Unit)=>Ig (N:Int) l w _ W i) N (fun _ _=>True) (Cf fun r=>r.2=true->Tw L lv r.1∧N<=r.1.length) ?_ ?_ n 0 () (by omega) (by omega) trivial
  ·intro Y i _ hi _ I
   have U:i<l.length:=by omega
   have G:i<w.length:=by omega
   simp only [Ig.eq_2,FL hi,cT,Ar U,Ar G,BQ,wT i]
   cases hli:l[i]with
   |true=>simp only [cT,BQ];exact I () trivial
   |false=>
    simp only [cF,BQ]
    cases hwi:w[i]with
    |true=>simp only [cT];exact I () trivial
    |false=>
     simp only [cF,show((i:Int)==(N:Int))=false from AJ.2 (by omega),BQ,BZ]
     rw [CU (by simp;omega) (by omega),BQ]
     refine ih (o++[(i:Int)],l.set i true) ⟨⟨by simp;omega,by simpa using h2⟩,h3.snoc ?_ ?_,?_⟩ (by simp;omega)
     ·exact fun h=>by have:=(J i U).2 h;rw [hli]at this;cases this
     ·intro k h F B a1
      by_cases E:L[k].d∈o
      ·exact E
      ·have:=H k h F h B E
       rw [a1,BZ,AK G,hwi]at this;cases this
     ·intro j hj
      have a4:j<l.length:=by simpa using hj
      have:=J j a4
      show(l.set i true)[j]=true↔(j:Int)∈o++[(i:Int)]
      rw [List.getElem_set,CM,Bb]
      by_cases e:i=j
      ·subst e;simp
      ·rw [BU e,this]
       exact⟨fun h=>.inl h,fun h=>h.elim id fun h=>by omega⟩
  ·intro Y _ _
   simp only [Ig.eq_2,Fh,cF,BQ,beq_self_eq_true,cT]
   exact Ao fun h=>by cases h
abbrev VJ(b:AV)(br:List Int):List Bool:=HZ (fun k (_:Al)=>[!(br.any fun y=>y==(k:Int))]) 0 (HV b)
theorem AgA{n:Nat}{l:Br}{d:At}(v:Fs l d){p:CP}(I:p∈pls d):∃r,Wh n l d (Iu p)=some r∧aR n d l p=some r:=by
 rw [Wh,aR]
 by_cases c:p.c<0
 ·rw [Aw (show(Iu p).c<0 from c),Aw c,cT,cT];exact⟨_,rfl,rfl⟩
 ·obtain⟨x,J,B,G,O,H⟩:=v.place p I (by omega)
  have F:AU d.c (Iu p).c=some x:=G
  have E:AU J.b (Iu p).f=some B:=H
  simp only [Av (show¬(Iu p).c<0 from c),Av c,cF,G,F,O,H,E,BQ];exact⟨_,rfl,rfl⟩
theorem kH{d:At}{x:Int}(F:0<=x)(H:x<(pls d).length):∃p,AU (pls d) x=some p∧AU ((pls d).map Iu) x=some (Iu p)∧p∈pls d:=by
 obtain⟨p,G,B⟩:=Ia (xs:=pls d) F H
 refine⟨p,G,?_,Dw B⟩
 obtain⟨N,E⟩:=Ap F
 have E:x=(N:Int):=E
 rw [E]at B ⊢
 rw [HM,FR]
 rw [BZ]at B
 rw [B];rfl
theorem LdE{n:Nat}{b:AV}(v:Dd b){i:Nat}(hi:i<b.c.length)(I:1048577<=n):∃r,gB n b (i:Int)=some r∧sN n b (i:Int)=some r∧r.length=b.c[i].b.length:=by
 have B:=v.design
 have F:=v.wire i hi
 have hm:=F.many
 have hP:=F.cap
 have hl:=EJ B.short B.few.1 B.few.2.2
 have a2:(It b.b (i:Int)).length=b.c[i].c.length:=by rw [JH];have:=F.sink;omega
 have a1:snk b.b (i:Int)<=78:=BH CW hl
 have a0:=JH (d:=b.b) (q:=(i:Int))
 rw [gB,Ar hi,BQ,TO,CU (by simp;omega) (by omega),BQ,BQ,SF B.short B.few.1 B.few.2.2 I,BQ,iI B (i:Int) I,BQ]
 rw [sN,Ar hi,BQ,gO,CU (by simp;omega) (by omega),BQ,BQ,kJ B.short B.few.1 B.few.2.2 I,BQ,AdB B _ I,BQ,Dg]
 refine aY (L:=fun m j s=>Ll n b b.c[i] ((pls b.b).map Iu) (It b.b (i:Int)) _ m j s) (M:=fun m j s=>Pr n b b.c[i] (pls b.b) (It b.b (i:Int)) _ m j s) (It b.b (i:Int)).length (fun _ s t=>s=t∧s.length=b.c[i].b.length) (fun o o'=>∃r,o=some r∧o'=some r∧r.length=b.c[i].b.length) ?_ ?_ n 0 _ _ (by omega) (by omega) ⟨rfl,by omega⟩
 ·rintro m j s _ Y ⟨rfl,E⟩
  have G:j<b.c[i].c.length:=by omega
  have H:=F.sinks j G
  have hq:=PF _ (AQ Y)
  obtain⟨a,Z⟩:=JL (t:=s) H.1 (by omega)
  obtain⟨p,ep,W,hp⟩:=kH hq.1 hq.2
  obtain⟨r,er,O⟩:=AgA (n:=n) B hp
  simp only [Ll.eq_2,Pr.eq_2,FL Y,cT,Ar Y,gI G,BQ,Z,ep,W,er,O,wT j]
  exact⟨_,_,⟨rfl,by simpa using E⟩,rfl,rfl⟩
 ·rintro m s _ ⟨rfl,E⟩
  simp only [Ll.eq_2,Pr.eq_2,Fh,cF]
  have wx:wrap .i64 ((s.length:Int)-1)=((s.length-1:Nat):Int):=by rw [BV (by omega) (by omega)];omega
  rw [wx]
  have U:∀(m k:Nat) (s:List Int),k<b.c[i].b.length->s.length=b.c[i].b.length->k<m->∃r:List Int,Ls b.c[i] (fun _ l=>some l) m (k:Int) s=some r∧Ps b.c[i] (fun _ l=>some l) m (k:Int) s=some r∧r.length=b.c[i].b.length:=by
   intro m
   induction m with
   |zero=>intro k s _ _ h;omega
   |succ m ih=>
    intro k s H E hm
    by_cases c:0<k
    ·have J:decide ((k:Int)>0)=true:=Aw (by omega)
     have ht:=F.tree k c H
     obtain⟨a,Z⟩:=JL (t:=s) ht.1 (by omega)
     have wk:wrap .i64 ((k:Int)-1)=((k-1:Nat):Int):=by rw [BV (by omega) (by omega)];omega
     simp only [Ls.eq_2,Ps.eq_2,J,cT,gI H,BQ,Z,gI (show k<s.length by omega),wk]
     exact ih (k-1) _ (by omega) (by simpa using E) (by omega)
    ·have J:decide ((k:Int)>0)=false:=Av (by omega)
     simp only [Ls.eq_2,Ps.eq_2,J,cF]
     exact⟨s,rfl,rfl,E⟩
  exact U n (s.length-1) s (by omega) E (by omega)
theorem DlE{n:Nat}{b:AV}(v:Dd b){i:Nat}(hi:i<b.c.length)(hn:1048577<=n):∃r,ZP n b (i:Int)=some r∧aN n b (i:Int)=some r∧r.length=b.c[i].b.length:=by
 have J:=v.wire i hi
 have hm:=J.many
 have hR:=J.res
 obtain⟨B,e1,e2,hl⟩:=LdE (n:=n) v hi hn
 rw [ZP,aN,Ar hi,BQ,BQ,e1,e2,BQ,BQ,Gc (by omega) (by omega),BQ]
 have:=aY (L:=fun m j s=>Lm b.c[i] B (fun l _=>some l) m s (wrap .i64 (j+1))) (M:=fun m j s=>NR b.c[i] B (fun _ l=>some l) m (wrap .i64 (j+1)) s) (b.c[i].b.length-1) (fun j s t=>s.length=j+1∧t.length=b.c[i].b.length∧t.take (j+1)=s) (fun o o'=>∃r,o=some r∧o'=some r∧r.length=b.c[i].b.length) ?_ ?_ n 0 [0] (List.replicate B.length 0) (by omega) (by omega) ?_
 ·rw [show wrap .i64 (((0:Nat):Int)+1)=1 by decide]at this
  exact this
 ·rintro m j s t hj ⟨W,I,F⟩
  have E:j+1<b.c[i].b.length:=by omega
  have Z:=J.tree (j+1) (by omega) E
  have O:wrap .i64 ((j:Int)+1)=((j+1:Nat):Int):=wS (by omega)
  have hp:∃a,AU s (gd b.c[i].b (j+1))=some a∧AU t (gd b.c[i].b (j+1))=some a:=by
   obtain⟨N,U⟩:=Ap Z.1
   have U:gd b.c[i].b (j+1)=(N:Int):=U
   rw [U]
   have G:N<s.length:=by omega
   have H:N<t.length:=by omega
   refine⟨s[N],Ar G,?_⟩
   rw [Ar H]
   congr 1
   subst F
   rw [GH]
  obtain⟨a,ea,eb⟩:=hp
  simp only [O,Lm.eq_2,NR.eq_2,FL (show j+1<B.length by omega),FL (show j+1<t.length by omega),cT,gI E,gI (show j+1<b.c[i].d.length by omega),gI (show j+1<B.length by omega),gI (show j+1<t.length by omega),BQ,ea,eb]
  rw [CU (by simp;omega) (by omega),BQ]
  refine⟨_,_,⟨by simp;omega,by simpa using I,?_⟩,rfl,rfl⟩
  rw [BZ,List.take_set,Bg (by omega:j+1<t.length),F]
  rw [List.set_append,BU (by omega)]
  simp [W]
 ·rintro m s t ⟨W,I,F⟩
  have O:wrap .i64 (((b.c[i].b.length-1:Nat):Int)+1)=(B.length:Int):=by rw [BV (by omega) (by omega)];omega
  have e:t=s:=by rw [←F];rw [List.take_of_length_le (by omega)]
  subst e
  have Y:decide ((B.length:Int)<(B.length:Int))=false:=Fh _
  have dt:decide ((B.length:Int)<(t.length:Int))=false:=by rw [Av];omega
  simp only [O,Lm.eq_2,NR.eq_2,Y,dt,cF]
  exact⟨t,rfl,rfl,I⟩
 ·refine⟨rfl,by simp;omega,?_⟩
  rw [List.take_replicate]
  have:min (0+1) B.length=1:=by omega
  rw [this];rfl
theorem ExE{n:Nat}{b:AV}(v:Dd b){i:Nat}(hi:i<b.c.length)(O:1048577<=n):∃B,ZP n b (i:Int)=some B∧B.length=b.c[i].b.length∧Zp n b (i:Int)=some (b.c[i].c.map fun k=>gd B k.toNat):=by
 have I:=v.wire i hi
 have U:=Ug v hi
 obtain⟨B,H,J,G⟩:=DlE (n:=n) v hi O
 refine⟨B,H,G,?_⟩
 rw [Zp,J,BQ,Ar hi,BQ]
 have:=GE (xs:=b.c[i].c) (L:=fun m s j=>NK B b.c[i] (fun l _=>some l) m s j) (k:=fun s=>some s) (fun _ (k:Int)=>[gd B k.toNat]) 1 0 (fun _ _ _=>by simp) (by omega) (by
  intro m j E s W
  have F:=I.sinks j E
  rw [uX E]at F
  simp only [NK.eq_2,FL E,cT,Ar E,BQ,SK F.1 (show b.c[i].c[j]<B.length by omega),wT j]
  rw [CU (by simp;omega) (by omega),BQ]) (by
  intro m s
  simp only [NK.eq_2,Fh,cF]) n (by omega) [] (by simp)
 rw [this,Dg,Ui]
theorem Sr{α:Type}{l m:List α}{i:Nat}{d:α}(h:i<l.length):(l++m).getD i d=l.getD i d:=by
 rw [Ce,Ce,BA h]
def VwQ(n:Nat)(b:AV)(x:Int)(z:List Int)(q:Nat):Prop:=∀hq:q<b.c.length,∃ls ds,gB n b (q:Int)=some ls∧0<ls.length∧x=gd ls 0∧ZP n b (q:Int)=some ds∧ds.length=b.c[q].b.length∧z=b.c[q].c.map fun k=>gd ds k.toNat
def yS(n:Nat)(b:AV)(lo:List Int)(de:List (List Int))(j:Nat):Prop:=(lo.length=j∧de.length=j)∧∀q,q<j->VwQ n b (gd lo q) (de.getD q []) q
theorem yS.snoc{n:Nat}{b:AV}{lo:List Int}{B:List (List Int)}{j:Nat}{x:Int}{z:List Int}(h:yS n b lo B j)(k:VwQ n b x z j):yS n b (lo++[x]) (B++[z]) (j+1):=by
 obtain⟨⟨H,G⟩,I⟩:=h
 refine⟨⟨by simp;omega,by simp;omega⟩,fun q J=>?_⟩
 by_cases c:q=j
 ·subst c
  have E:gd (lo++[x]) q=x:=by subst H;simp [gd]
  have F:(B++[z]).getD q []=z:=by rw [←G];simp
  rw [E,F];exact k
 ·have E:gd (lo++[x]) q=gd lo q:=by unfold gd;rw [Sr (by omega)]
  have F:(B++[z]).getD q []=B.getD q []:=by rw [Sr (by omega)]
  rw [E,F];exact I q (by omega)
structure NS(n:Nat)(b:AV)(w:Cd):Prop where
 blk:w.c=b
 places:w.d=pls b.b
 links:w.b=HV b
 extras:w.h=[]
 data:yS n b w.g w.f b.c.length
theorem Vw4{n:Nat}{b:AV}(v:Dd b)(hn:1048577<=n):Cf (NS n b) (qC n b):=by
 have E:=v.design
 have f1:=E.few.1;have f2:=E.few.2.1
 have hl:=EJ E.short E.few.1 E.few.2.2
 have hW:=v.many
 have hI:=HP (c:=32) (g:=VH b) b.b.c 0 fun j x hx=>PM v j hx
 rw [qC,kJ E.short E.few.1 E.few.2.2 hn,BQ]
 refine OI (L:=fun m j (s:Int×List Al)=>QG n b _ m s.1 j s.2) b.b.c.length (fun j s=>s.1=(IA b.b j:Int)∧s.2=HZ (VH b) 0 (b.b.c.take j)) ?_ ?_ n ((0:Int),[]) (by omega) ⟨by simp [IA,HZ],by simp [HZ]⟩
 ·intro m j s B ⟨a5,F⟩
  have a6:=(E.inst _ (AQ B)).long E.lib
  have a7:=(KT (d:=b.b) (q:=0) B (by omega)).lt
  have a4:=HP (c:=32) (g:=VH b) (b.b.c.take j) 0 fun i x hx=>PM v i (List.mem_of_mem_take hx)
  have a9:(b.b.c.take j).length=j:=by simp;omega
  have b1:=PM v j (AQ B)
  simp only [QG.eq_2,FL B,cT,Ar B,BQ,a5,F,AdV v B hn,Si,wT j]
  rw [CU (by omega) (by omega),BQ,BV (by omega) (by omega)]
  exact⟨((IA b.b (j+1):Int),HZ (VH b) 0 (b.b.c.take (j+1))),⟨rfl,rfl⟩,by rw [MH B,Ya B];rfl⟩
 ·intro m s ⟨_,F⟩
  rw [Ch]at F
  simp only [QG.eq_2,Fh,cF]
  rw [Gc (by omega) (by omega),BQ,Gc (by omega) (by omega),BQ,F]
  refine OI (L:=fun m j (s:List Int×List (List Int))=>Oh (pls b.b) _ m j s.1 s.2) (pls b.b).length (fun j s=>(s.1.length=b.c.length∧s.2.length=b.c.length)∧(∀q (h:q<s.2.length),s.2[q]=Tf b.b q j)∧∀q,q<b.c.length->JV b.b q<j->gd s.1 q=(JV b.b q:Int)) ?_ ?_ n (List.replicate b.c.length 0,List.replicate b.c.length []) (by omega) ⟨⟨by simp,by simp⟩,fun q h=>by simp [Tf,HZ],fun q _ h=>by omega⟩
  ·intro m j s B ⟨⟨h1,h2⟩,U,Z⟩
   have hp:=E.net _ (AQ B)
   obtain⟨N,H⟩:=Ap hp.1
   have H:(pls b.b)[j].b=(N:Int):=H
   have b2:N<b.c.length:=by omega
   obtain⟨a,ea⟩:=JL (t:=s.1) (i:=(N:Int)) (by omega) (by omega)
   have ey:AU s.2 (N:Int)=some s.2[N]:=Ar (by omega)
   have b0:=Zr b.b N j
   simp only [Oh.eq_2,FL B,cT,Ar B,BQ,H,ea,ey,U N (by omega),BZ,wT j]
   cases hdr:(pls b.b)[j].d with
   |true=>
    rw [cT]
    refine⟨(s.1.set N (j:Int),s.2),⟨⟨by simpa using h1,h2⟩,fun q G=>?_,fun q G a2=>?_⟩,rfl⟩
    ·have:Hz (q:Int) (pls b.b)[j]=false:=by simp [Hz,hdr]
     rw [U q G];unfold Tf
     rw [MH B,this];simp
    ·have I:=QK E (q:=q) (by omega)
     rw [KX (by omega)]
     by_cases c:N=q
     ·subst c
      rw [BE rfl,I.only j B (by simp [ID,H,hdr])]
     ·rw [BU c]
      refine Z q G ?_
      rcases GU (JV b.b q) j with h|h
      ·exact h
      ·exfalso
       have ej:JV b.b q=j:=by omega
       have O:=I.hit
       simp only [ID,AG,BB]at O
       have J:=O.1
       simp only [ej]at J
       rw [H]at J;omega
   |false=>
    rw [cF,CU (by simp;omega) (by omega),BQ]
    refine⟨(s.1,s.2.set N (Tf b.b N j++[(j:Int)])),⟨⟨h1,by simpa using h2⟩,fun q G=>?_,fun q G a2=>?_⟩,rfl⟩
    ·simp only [Er]at G
     rw [List.getElem_set]
     unfold Tf
     rw [MH B]
     by_cases c:N=q
     ·subst c
      have:Hz (N:Int) (pls b.b)[j]=true:=by simp [Hz,H,hdr]
      rw [BE rfl,this];simp
     ·have:Hz (q:Int) (pls b.b)[j]=false:=by
       have:((N:Int)==(q:Int))=false:=by rw [AJ];omega
       simp [Hz,H,this]
      rw [BU c,this,U q (by omega)];simp [Tf]
    ·have I:=QK E (q:=q) (by omega)
     refine Z q G ?_
     rcases GU (JV b.b q) j with h|h
     ·exact h
     ·exfalso
      have ej:JV b.b q=j:=by omega
      have O:=I.hit
      simp only [ID,AG]at O
      have J:=O.2
      simp only [ej]at J
      rw [hdr]at J;cases J
  ·intro m t ⟨⟨h1,h2⟩,U,Z⟩
   simp only [Oh.eq_2,Fh,cF]
   refine OI (L:=fun m j (s:(List Al×List Int)×List (List Int))=>Ou n b t.1 t.2 _ m j s.1.1 s.1.2 s.2) b.c.length (fun j u=>(u.1.1=HZ (VH b) 0 b.b.c++HZ (fun q (_:ByteArray)=>mZ b.b q) 0 (b.b.b.take j)∧u.1.2.length=j)∧yS n b u.1.2 u.2 j) ?_ ?_ n ((HZ (VH b) 0 b.b.c,[]),[]) (by omega) ⟨⟨by simp [HZ],rfl⟩,⟨rfl,rfl⟩,fun q h=>absurd h (AX q)⟩
   ·intro m j u B ⟨⟨g1,g2⟩,g3⟩
    obtain⟨r,es,er,hr⟩:=LdE (n:=n) v B hn
    obtain⟨ds,ed,a3,ez⟩:=ExE (n:=n) v B hn
    have g4:=g3.1.2
    have a8:=(v.wire j B).sink
    have hm:=(v.wire j B).many
    have e0:AU r 0=some (gd r 0):=gI (i:=0) (by omega)
    have Y:j<t.2.length:=by omega
    have W:j<b.b.b.length:=by omega
    have I:=(QK E W).lt
    have a1:AU t.1 (j:Int)=some (JV b.b j:Int):=by rw [gI (by omega),Z j B I]
    have a0:t.2[j]=It b.b (j:Int):=by rw [U j Y,Zn]
    have b3:u.1.1.length<=448+156*j:=by
     have q1:=HP (c:=156) (g:=fun q (_:ByteArray)=>mZ b.b q) (b.b.b.take j) 0 fun i x _=>Uv E i
     have q2:(b.b.b.take j).length=j:=by simp;omega
     rw [g1,CA];omega
    have a4:(It b.b (j:Int)).length<=78:=by
     rw [JH];exact BH CW hl
    simp only [Ou.eq_2,FL B,cT,BQ,er,e0,ez,Ar Y,a0]
    rw [CU (by simp;omega) (by omega),BQ,CU (by simp;omega) (by omega),BQ,wT j]
    refine⟨((u.1.1++mZ b.b j,u.1.2++[gd r 0]),u.2++[b.c[j].c.map fun k=>gd ds k.toNat]),⟨⟨?_,by simp;omega⟩,g3.snoc fun _=>⟨r,ds,es,by omega,rfl,ed,a3,rfl⟩⟩,?_⟩
    ·rw [g1,MH W,Ci]
    ·refine GE (xs:=It b.b (j:Int)) (L:=fun m' s k=>QR n t.1 (j:Int) (It b.b (j:Int)) _ m' k s) (k:=fun s=>Ou n b t.1 t.2 _ m ((j+1:Nat):Int) s (u.1.2++[gd r 0]) (u.2++[b.c[j].c.map fun k=>gd ds k.toNat])) (dX (JV b.b j:Int)) 2 u.1.1.length (fun j a _=>by simp [dX]) (by omega) ?_ ?_ n (by omega) u.1.1 (by omega)
     ·intro m k hk s hs
      have G:=PF _ (AQ hk)
      obtain⟨n',rfl⟩:∃n',n=n'+3:=⟨n-3,by omega⟩
      have w1:wrap .i64 ((0:Int)+1)=1:=by decide
      have w2:wrap .i64 ((1:Int)+1)=2:=by decide
      simp only [QR.eq_2,FL hk,cT,Ar hk,BQ,wT k]
      rw [Pq.eq_2,show decide ((0:Int)<2)=true from rfl,cT,a1,BQ,BV (x:=2*(JV b.b j:Int)) (by omega) (by omega),BV (x:=2*(It b.b (j:Int))[k]) (by omega) (by omega),BV (x:=2*(JV b.b j:Int)+0) (by omega) (by omega),BV (x:=2*(It b.b (j:Int))[k]+0) (by omega) (by omega),CU (by simp;omega) (by omega),BQ,w1,Pq.eq_2,show decide ((1:Int)<2)=true from rfl,cT,a1,BQ,BV (x:=2*(JV b.b j:Int)) (by omega) (by omega),BV (x:=2*(It b.b (j:Int))[k]) (by omega) (by omega),BV (x:=2*(JV b.b j:Int)+1) (by omega) (by omega),BV (x:=2*(It b.b (j:Int))[k]+1) (by omega) (by omega),CU (by simp;omega) (by omega),BQ,w2,Pq.eq_2,show decide ((2:Int)<2)=false from rfl,cF,Ci]
      congr 1
      simp [dX]
     ·intro m s
      simp only [QR.eq_2,Fh,cF]
   ·intro m u ⟨⟨g1,_⟩,g3⟩
    simp only [Ou.eq_2,Fh,cF]
    refine⟨_,rfl,⟨rfl,rfl,?_,rfl,g3⟩⟩
    show u.1.1=HV b
    rw [g1,hW,Ch];rfl
theorem NS.at{n:Nat}{b:AV}{w:Cd}(h:NS n b w){q:Nat}(F:q<b.c.length):∃E B,gB n b (q:Int)=some E∧0<E.length∧AU w.g (q:Int)=some (gd E 0)∧ZP n b (q:Int)=some B∧B.length=b.c[q].b.length∧AU w.f (q:Int)=some (b.c[q].c.map fun k=>gd B k.toNat):=by
 obtain⟨⟨Z,Y⟩,U⟩:=h.data
 obtain⟨E,B,J,W,H,O,G,I⟩:=U q F F
 refine⟨E,B,J,W,?_,O,G,?_⟩
 ·rw [gI (by omega),H]
 ·rw [Ar (by omega:q<w.f.length),←I]
  simp [Ce,show q<w.f.length by omega]
theorem zU{n:Nat}{c:BG}{k m:Int}:∃r,WD n c k m=some r∧Yt n c k m=some r:=by
 rw [WD,Yt]
 cases(k==1)<;>cases(m==0)<;>exact⟨_,rfl,rfl⟩
theorem vX{n:Nat}{p f m:Int}:∃r,(Option.bind (Of n (wrap .i64 (p*f)) 1000 m) fun r=>some r)=some r∧(Option.bind (ZE n p f m) fun r=>some r)=some r:=by
 obtain⟨r,E,B⟩:=Dv (n:=n) (s:=wrap .i64 (p*f)) (D:=1000) (mode:=m) (by omega)
 rw [ZE,E,B];exact⟨r,rfl,rfl⟩
theorem tT{n:Nat}{b:AV}(v:Dd b){w:Cd}(h:NS n b w){x:Al}(ok:XE b x)(k:x.c=1)(hn:1048577<=n):
 ∃a z,∃N:Nat,VF n b x=some (a,z)∧Yf n w x=some a∧Ux n w x=some (N:Int)∧AU w.g (N:Int)=some z∧VI a.h true∧VI a.f true:=by
 have E:=v.design
 obtain⟨a0,z0,Y,d0,s0⟩:=rH (n:=n) v ok k hn
 obtain⟨p,y,c,a,W,pm,Z,g3,g4,kd⟩:=ok.arc k
 have hp:=E.net p pm
 have hW:=v.many
 obtain⟨N,F⟩:=Ap hp.1
 have F:p.b=(N:Int):=F
 have O:N<b.c.length:=by omega
 obtain⟨B,ds,l1,l2,l3,_⟩:=h.at O
 have I:AU ((pls b.b).map Iu) (wrap .i64 (Int.tdiv x.b 2))=some (Iu p):=by
  obtain⟨g0,g5,G⟩:=Gf W
  obtain⟨M,H⟩:=Ap g0
  have H:wrap .i64 (Int.tdiv x.b 2)=(M:Int):=H
  rw [H]at G ⊢
  rw [HM,FR]
  rw [BZ]at G
  rw [G];rfl
 have U:AU b.b.c (Iu p).c=some y:=Z
 have J:(Iu p).b=(N:Int):=F
 have es:VF n b x=some (a,gd B 0):=by
  rw [VF,SF E.short E.few.1 E.few.2.2 hn]
  have q0:AU B 0=some (gd B 0):=gI (i:=0) l2
  simp only [BQ,I,U,g3,g4,J,l1]
  rw [q0];rfl
 rw [es]at Y
 obtain⟨rfl,rfl⟩:=Prod.mk.inj (Ai Y)
 refine⟨a,gd B 0,N,es,?_,?_,l3,d0,s0⟩
 ·rw [Yf,h.places,h.blk,W]
  simp only [BQ,Z,g3,g4]
 ·rw [Ux,h.places,W,BQ,F]
theorem vJ{n:Nat}{b:AV}(v:Dd b){w:Cd}(G:NS n b w){x:Al}{f t q j:Nat}(h:fU b x f t q j):Ux n w x=some (q:Int):=by
 have B:=v.design
 have J:=EJ B.short B.few.1 B.few.2.2
 obtain⟨I,_,E⟩:=h.snk
 have F:wrap .i64 (Int.tdiv x.b 2)=(t:Int):=by
  have H:0<=x.b:=by have:=h.to_;omega
  have e:Int.tdiv x.b 2=(t:Int):=by rw [Dy H];have:=h.to_;omega
  rw [e,BV (by omega) (by omega)]
 rw [Ux,G.places,F,Ar I,BQ,E]
theorem SdE{n:Nat}{b:AV}(v:Dd b){i:Nat}(hi:i<b.c.length){mode:Int}{E:List Int}(e:ZP n b (i:Int)=some E)(W:E.length=b.c[i].b.length)(Z:1048577<=n):
 ∃r,Wk n b (i:Int) mode=some r∧r.length=b.c[i].c.length∧∀j (B:j<b.c[i].c.length),Of n (gd E (b.c[i].c[j]).toNat) 1000 mode=some (gd r j):=by
 have O:=v.wire i hi
 have hm:=O.many
 have Y:=Ug v hi
 rw [Wk,e,BQ]
 refine loop (L:=fun m j s=>Jc n b (i:Int) mode E _ m s j) b.c[i].c.length (fun j s=>s.length=j∧∀k (F:k<b.c[i].c.length),k<j->Of n (gd E (b.c[i].c[k]).toNat) 1000 mode=some (gd s k)) (fun o=>∃r,o=some r∧r.length=b.c[i].c.length∧∀j (B:j<b.c[i].c.length),Of n (gd E (b.c[i].c[j]).toNat) 1000 mode=some (gd r j)) ?_ ?_ n 0 [] (by omega) (by omega) ⟨rfl,fun k F h=>absurd h (AX k)⟩
 ·rintro m j s B ⟨I,H⟩
  have F:=O.sinks j B
  rw [uX B]at F
  obtain⟨r,J⟩:=uY (n:=n) (s:=gd E (b.c[i].c[j]).toNat) (D:=1000) (mode:=mode) (by omega)
  simp only [Jc.eq_2,Ar hi,BQ,FL B,cT,Ar B,SK F.1 (show b.c[i].c[j]<E.length by omega),J,wT j]
  rw [CU (by simp;omega) (by omega),BQ]
  refine .inl ⟨_,⟨by simp;omega,fun k G U=>?_⟩,rfl⟩
  by_cases c:k=j
  ·subst c
   rw [J];congr 1;subst I;simp [gd]
  ·rw [H k G (by omega)];congr 1;unfold gd;rw [Sr (by omega)]
 ·rintro m s ⟨I,H⟩
  simp only [Jc.eq_2,Ar hi,BQ,Fh,cF]
  exact⟨s,rfl,I,fun j B=>H j B B⟩
theorem jD{n:Nat}{b:AV}(v:Dd b){w:Cd}(I:NS n b w){x:Al}(Y:x∈HV b){k:Int}(hk:AU w.b k=some x){c:BG}{s m:Int}(E:1048577<=n):∃r,Tk n b c x s m=some r∧Vc n w c k s m=some r:=by
 have ok:=Rj v x Y
 rw [Tk,Vc,hk,BQ]
 obtain⟨fa,U,Z⟩:=zU (n:=n) (c:=c) (k:=x.c) (m:=m)
 rcases Rg v x Y with k|⟨f,t,q,j,h⟩
 ·obtain⟨a,z,N,e1,e2,e3,e4,J,_⟩:=tT v I ok k E
  have W:=VC ok.to_.1
  obtain⟨u,eu,hu⟩:=Cf.get (Q:=fun u=>VT u∧(true=true->_)) W.1 (by rw [J.1];exact W.2) J.2
  obtain⟨r,F,H⟩:=Lk (n:=n) hu.1 s z m E
  rw [e3,BQ,BB.2 k,cT,cT,e1,BQ,e2,BQ]
  simp only [eu,BQ,e4,F,H,U,Z]
  exact vX
 ·have k1:(x.c==1)=false:=by rw [AJ,h.kind];omega
  obtain⟨O,hj⟩:=h.sinks
  obtain⟨ls,G,_,_,_,l1,l2,l3⟩:=I.at O
  obtain⟨sd,s1,s2,s3⟩:=SdE (mode:=m) v O l1 l2 E
  have B:=s3 j hj
  obtain⟨r,F,H⟩:=Dv (n:=n) (s:=gd G (b.c[q].c[j]).toNat) (D:=1000) (mode:=m) (by omega)
  rw [F]at B
  obtain rfl:=Ai B
  have em:AU (b.c[q].c.map fun k=>gd G k.toNat) (j:Int)=some (gd G (b.c[q].c[j]).toNat):=by
   rw [Ar (by simpa using hj),Fg]
  rw [vJ v I h,BQ,k1,cF,cF,cU v h E,BQ,s1,BQ,h.ix,gI (by omega),BQ,l3,BQ,em,BQ]
  simp only [H,BQ,U,Z]
  exact vX
theorem AaM{n:Nat}{x:Int}(Y:1048577<=n):Cf (fun _=>True) (eZ n x):=by
 rw [eZ]
 have B:∀(m:Nat) (i j:Int),0<=i->i<=j->j<=3000000000->j-i<2^m->Cf (fun _=>True) (LY x (fun i _=>some i) (m+1) i j):=by
  intro m
  induction m with
  |zero=>
   intro i j I H E F
   have:i=j:=by simp at F;omega
   subst this
   rw [LY.eq_2,Av (by omega),cF]
   exact Ao trivial
  |succ m G=>
   intro i j I H E F
   rw [Int.pow_succ]at F
   rw [LY.eq_2]
   by_cases c:i<j
   ·have O:wrap .i64 (i+j)=i+j:=BV (by omega) (by omega)
    have W:wrap .i64 (i+j+1)=i+j+1:=BV (by omega) (by omega)
    have e:Int.tdiv (i+j+1) 2=(i+j+1)/2:=Dy (by omega)
    have U:wrap .i64 ((i+j+1)/2)=(i+j+1)/2:=BV (by omega) (by omega)
    have J:wrap .i64 ((i+j+1)/2-1)=(i+j+1)/2-1:=BV (by omega) (by omega)
    rw [Aw c,cT,O,W,e,U,J]
    exact Be (fun _=>G _ _ (by omega) (by omega) E (by omega)) fun _=>G _ _ I (by omega) (by omega) (by omega)
   ·rw [Av c,cF]
    exact Ao trivial
 obtain⟨m,rfl⟩:∃m,n=m+1:=⟨n-1,by omega⟩
 refine B m 0 3000000000 (by omega) (by omega) (by omega) ?_
 have H:(2:Int)^40<=2^m:=by
  have:=FV (show 1<=2 by omega) (show 40<=m by omega)
  exact_mod_cast this
 have E:(2:Int)^40=1099511627776:=by decide
 omega
theorem AfF{n:Nat}{s d m:Int}(B:1048577<=n):Cf (fun _=>True) (ZV n s d m):=by
 rw [ZV]
 refine Cf.bind (AaM B) fun r _ _=>Be (fun _=>Ao trivial) fun _=>?_
 obtain⟨q,_,e⟩:=Dv (n:=n) (s:=r) (D:=500) (mode:=m) (by omega)
 rw [e];exact Ao trivial
theorem gS{n:Nat}{b:AV}(v:Dd b){w:Cd}(B:NS n b w){x:Al}(G:x∈HV b){k:Int}(O:AU w.b k=some x){s m:Int}(E:1048577<=n):Cf (fun _=>True) (WG n w k s m):=by
 have ok:=Rj v x G
 rw [WG,O,BQ]
 rcases Rg v x G with k|⟨f,t,q,j,h⟩
 ·obtain⟨a,z,N,_,e2,W,e4,_,F⟩:=tT v B ok k E
  have H:=VC ok.to_.1
  rw [W,BQ,BB.2 k,cT,e2,BQ,e4]
  refine Cf.bind (Cf.get H.1 (by rw [F.1];exact H.2) F.2) fun u _ hu=>?_
  obtain⟨r,_,J⟩:=Lk (n:=n) hu.1 s z m E
  rw [BQ,J];exact Ao trivial
 ·have I:(x.c==1)=false:=by rw [AJ,h.kind];omega
  obtain⟨U,Y⟩:=h.sinks
  obtain⟨ls,ds,_,_,_,l1,l2,Z⟩:=B.at U
  rw [vJ v B h,BQ,I,cF,Z,BQ,h.ix,Ar (by simpa using Y),BQ]
  exact Cf.bind (AfF E) fun _ _ _=>Ao trivial
theorem AcY{n:Nat}{b:AV}(v:Dd b){w:Cd}(G:NS n b w){x:Al}(B:x∈HV b){k:Int}(F:AU w.b k=some x){c:BG}{s:Ax}(E:1048577<=n):∃d z U,Vq n b c x s=some (d,z)∧eV n w c k s=some (d,U):=by
 obtain⟨a1,p1,Z⟩:=jD (c:=c) (s:=s.b) (m:=0) v G B F E
 obtain⟨a2,O,q2⟩:=jD (c:=c) (s:=s.b) (m:=1) v G B F E
 obtain⟨a3,H,q3⟩:=jD (c:=c) (s:=s.c) (m:=0) v G B F E
 obtain⟨a4,I,q4⟩:=jD (c:=c) (s:=s.c) (m:=1) v G B F E
 obtain⟨b1,g1,_⟩:=WJ (s:=s.b) (m:=0) v B E
 obtain⟨b2,W,_⟩:=WJ (s:=s.b) (m:=1) v B E
 obtain⟨b3,g3,_⟩:=WJ (s:=s.c) (m:=0) v B E
 obtain⟨b4,g4,_⟩:=WJ (s:=s.c) (m:=1) v B E
 obtain⟨c1,h1,_⟩:=gS (s:=s.b) (m:=0) v G B F E
 obtain⟨c2,J,_⟩:=gS (s:=s.b) (m:=1) v G B F E
 obtain⟨c3,h3,_⟩:=gS (s:=s.c) (m:=0) v G B F E
 obtain⟨c4,Y,_⟩:=gS (s:=s.c) (m:=1) v G B F E
 rw [Vq,eV];try simp only [jn]
 have he:(decide ((w.h.length:Int)>0))=false:=by rw [G.extras];rfl
 simp only [p1,O,H,I,Z,q2,q3,q4,g1,W,g3,g4,h1,J,h3,Y,F,BQ,he,FF,cF]
 exact⟨_,_,_,rfl,rfl⟩
def VD(L:List Al)(k:Nat):Int:=match L[k]? with
 |some x=>x.b
 |none=>0
def QT(L:List Al)(k:Nat):Int:=match L[k]? with
 |some x=>x.d
 |none=>0
theorem Uy{L:List Al}{k:Nat}(h:k<L.length):VD L k=L[k].b:=by simp [VD,h]
theorem MX{L:List Al}{k:Nat}(h:k<L.length):QT L k=L[k].d:=by simp [QT,h]
def QO(p:Nat->Bool)(N:Nat):List Int:=((List.range N).filter p).map fun k:Nat=>(k:Int)
theorem Jj(p:Nat->Bool)(i:Nat):QO p (i+1)=QO p i++(if p i=true then [(i:Int)]else []):=by
 unfold QO
 rw [List.range_succ,List.filter_append,FN]
 by_cases h:p i=true
 ·simp [h]
 ·simp [h]
theorem Qi(p:Nat->Bool)(N:Nat):(QO p N).length<=N:=by
 unfold QO;rw [Dn];exact BH (GC _ _) (by simp)
theorem Xu{p:Nat->Bool}{N:Nat}{x:Int}(h:x∈QO p N):∃k,k<N∧x=(k:Int)∧p k=true:=by
 obtain⟨k,E,rfl⟩:=ED.1 h
 obtain⟨F,B⟩:=List.mem_filter.1 E
 exact⟨k,FG.1 F,rfl,B⟩
theorem UD(p:Nat->Bool)(f:Nat->Bool)(N:Nat):(QO p N).countP (fun k=>f k.toNat)=(List.range N).countP fun k=>f k&&p k:=by
 unfold QO
 rw [List.countP_map,List.countP_filter]
 rfl
theorem uA{n:Nat}{g:DK}{u:Int}(G:g.b.b.length<=1048576)(F:g.c.length=g.b.b.length)(I:1048577<=n):Yv n g u=some (QO (fun k=>gb g.c k&&(QT g.b.b k==u)) g.b.b.length):=by
 rw [Yv,jN]
 have:KN n g u (fun B E=>(some B)) n (([]:List Int)) 0=some (QO (fun k=>gb g.c k&&(QT g.b.b k==u)) g.b.b.length):=by
  refine loop (L:=fun m i s=>KN n g u (fun l _=>some l) m s i) g.b.b.length (fun i s=>s=QO (fun k=>gb g.c k&&(QT g.b.b k==u)) i) (fun o=>o=some (QO (fun k=>gb g.c k&&(QT g.b.b k==u)) g.b.b.length)) ?_ ?_ n 0 [] (by omega) (by omega) rfl
  ·rintro m i s hi rfl
   have H:=Qi (fun k=>gb g.c k&&(QT g.b.b k==u)) i
   simp only [KN.eq_2,FL hi,cT,Ar hi,JB (show i<g.c.length by omega),BQ,jX,wT i]
   cases c:gb g.c i with
   |false=>
    refine .inl ⟨_,rfl,?_⟩
    rw [cF,BQ,cF,Jj];simp [c]
   |true=>
    rw [cT,BQ]
    cases e:(g.b.b[i].d==u)with
    |false=>refine .inl ⟨_,rfl,?_⟩;rw [cF,Jj];simp [c,MX hi,e]
    |true=>
     refine .inl ⟨_,rfl,?_⟩
     rw [cT,CU (by simp;omega) (by omega),BQ,Jj];simp [c,MX hi,e]
  ·rintro m s rfl
   simp only [KN.eq_2,Fh,cF]
 rw [this,BQ]
theorem AaI{n:Nat}{g:DK}(F:g.b.b.length<=1048576)(E:g.c.length=g.b.b.length)(G:1048577<=n):Zw n g=some (QO (fun k=>gb g.c k) g.b.b.length):=by
 rw [Zw]
 refine loop (L:=fun m i s=>LK n g (fun l _=>some l) m s i) g.b.b.length (fun i s=>s=QO (fun k=>gb g.c k) i) (fun o=>o=some (QO (fun k=>gb g.c k) g.b.b.length)) ?_ ?_ n 0 [] (by omega) (by omega) rfl
 ·rintro m i s hi rfl
  have B:=Qi (fun k=>gb g.c k) i
  simp only [LK.eq_2,FL hi,cT,Ar hi,JB (show i<g.c.length by omega),BQ,jI,wT i]
  cases c:gb g.c i with
  |false=>refine .inl ⟨_,rfl,?_⟩;rw [cF,BQ,cF,Jj];simp [c]
  |true=>refine .inl ⟨_,rfl,?_⟩;rw [cT,BQ,cT,CU (by simp;omega) (by omega),BQ,Jj];simp [c]
 ·rintro m s rfl
  simp only [LK.eq_2,Fh,cF]
def NC(L:List Al)(lv l:List Bool)(q:Int)(i:Nat):Nat:=(List.range i).countP fun k=>gb lv k&&(VD L k==q)&& !gb l (QT L k).toNat
theorem RU(L:List Al)(lv l:List Bool)(q:Int)(i:Nat):NC L lv l q (i+1)=NC L lv l q i+(if (gb lv i&&(VD L i==q)&& !gb l (QT L i).toNat)=true then 1 else 0):=by
 unfold NC;rw [List.range_succ,DV,List.countP_singleton]
theorem iT(L:List Al)(lv l:List Bool)(q:Int)(i:Nat):NC L lv l q i<=i:=by
 unfold NC;exact BH CW (by simp)
theorem Sd{α:Type}{p q r:α->Bool}:∀{xs:List α},(∀x∈xs,(p x).toNat+(q x).toNat=(r x).toNat)->xs.countP p+xs.countP q=xs.countP r
 |[],_=>rfl
 |x::xs,h=>by
  have E:=Sd (xs:=xs) fun y B=>h y (Dx _ B)
  have F:=h x Co
  have e:∀b:Bool,(if b=true then 1 else 0)=b.toNat:=by decide
  rw [FD,FD,FD,e,e,e];omega
theorem dP{L:List Al}{lv l:List Bool}{q:Int}{x:Nat}(H:x<l.length)(F:gb l x=false)(G:∀k,k<L.length->0<=QT L k):NC L lv (l.set x true) q L.length+(List.range L.length).countP (fun k=>(VD L k==q)&&(gb lv k&&(QT L k==(x:Int))))=NC L lv l q L.length:=by
 unfold NC
 refine Sd fun k E=>?_
 have E:=G k (FG.1 E)
 rw [Kb H]
 cases gb lv k with
 |false=>simp
 |true=>
  cases(VD L k==q)with
  |false=>simp
  |true=>
   by_cases e:x=(QT L k).toNat
   ·have B:(QT L k==(x:Int))=true:=by rw [BB];omega
    rw [BE e,B,←e,F];rfl
   ·have B:(QT L k==(x:Int))=false:=by rw [AJ];omega
    rw [BU e,B];cases gb l (QT L k).toNat<;>rfl
def mP(P:Nat->Prop)(N x:Nat):Prop:=x<=N∧(∀q,q<x->¬P q)∧(x<N->P x)
theorem mP.uniq{P:Nat->Prop}{N x y:Nat}(h:mP P N x)(k:mP P N y):x=y:=by
 rcases Nat.lt_trichotomy x y with c|c|c
 ·exact absurd (h.2.2 (by have:=k.1;omega)) (k.2.1 x c)
 ·exact c
 ·exact absurd (k.2.2 (by have:=h.1;omega)) (h.2.1 y c)
theorem AfK{n:Nat}{op:List Int}(B:op.length<=1048576)(E:1048577<=n):∃x,mP (fun q=>gd op q=0) op.length x∧cR n op 0=some (if x<op.length then(x:Int)else-1):=by
 rw [cR]
 refine loop (L:=fun m i (_:Unit)=>NB op 0 (fun _=>some (-1)) m i) op.length (fun i _=>∀q,q<i->¬gd op q=0) (fun o=>∃x,mP (fun q=>gd op q=0) op.length x∧o=some (if x<op.length then(x:Int)else-1)) ?_ ?_ n 0 () (by omega) (by omega) (fun q h=>absurd h (AX q))
 ·intro m i _ hi h
  simp only [NB.eq_2,FL hi,cT,gI hi,BQ,wT i]
  cases c:((0:Int)==gd op i)with
  |true=>
   have c:=BB.1 c
   exact .inr ⟨i,⟨by omega,h,fun _=>c.symm⟩,by rw [cT,BE hi]⟩
  |false=>
   have c:=AJ.1 c
   refine .inl ⟨(),fun q F=>?_,rfl⟩
   by_cases e:q=i
   ·subst e;exact fun z=>c z.symm
   ·exact h q (by omega)
 ·intro m _ h
  simp only [NB.eq_2,Fh,cF]
  exact⟨op.length,⟨Bj _,h,fun z=>by omega⟩,by rw [BU (by omega)]⟩
theorem NxS{N:Nat}{l w:List Bool}{K:Int->Option (List Int×Bool)}(E:l.length=N)(G:w.length=N)(F:N<=1000)(m:Nat)(hm:1048577<=m):∃x,mP (fun q=>gb l q=false∧gb w q=false) N x∧Ig (N:Int) l w K m 0=K (x:Int):=by
 refine loop (L:=fun m i (_:Unit)=>Ig (N:Int) l w K m i) N (fun i _=>∀q,q<i->¬(gb l q=false∧gb w q=false)) (fun o=>∃x,mP (fun q=>gb l q=false∧gb w q=false) N x∧o=K (x:Int)) ?_ ?_ m 0 () (by omega) (by omega) (fun q h=>absurd h (AX q))
 ·intro m i _ hi h
  simp only [Ig.eq_2,FL hi,cT,JB (show i<l.length by omega),JB (show i<w.length by omega),BQ,wT i]
  cases a:gb l i with
  |true=>
   refine .inl ⟨(),fun q B=>?_,rfl⟩
   by_cases e:q=i
   ·subst e;rw [a];simp
   ·exact h q (by omega)
  |false=>
   cases c:gb w i with
   |true=>
    refine .inl ⟨(),fun q B=>?_,rfl⟩
    by_cases e:q=i
    ·subst e;rw [c];simp
    ·exact h q (by omega)
   |false=>exact .inr ⟨i,⟨by omega,h,fun _=>⟨a,c⟩⟩,rfl⟩
 ·intro m _ h
  simp only [Ig.eq_2,Fh,cF,BQ]
  exact⟨N,⟨Bj _,h,fun z=>by omega⟩,rfl⟩
theorem AcK{N:Nat}{L:List Al}{lv l:List Bool}(O:Pb L N)(W:lv.length=L.length)(hl:L.length<=10000)(h2:l.length=N){K:Int->List Bool->Option (List Int×Bool)}{m:Nat}(hm:1048577<=m):∃w:List Bool,w.length=N∧(∀q,q<N->gb w q=decide (0<NC L lv l (q:Int) L.length))∧∃j,If L lv l K m 0 (List.replicate N false)=K j w:=by
 refine loop (L:=fun m i w=>If L lv l K m i w) L.length (fun i w=>w.length=N∧∀q,q<N->gb w q=decide (0<NC L lv l (q:Int) i)) (fun o=>∃w:List Bool,w.length=N∧(∀q,q<N->gb w q=decide (0<NC L lv l (q:Int) L.length))∧∃j,o=K j w) ?_ ?_ m 0 (List.replicate N false) (by omega) (by omega) ⟨by simp,fun q E=>by simp [NC,gb,E]⟩
 ·rintro m i w hi ⟨H,G⟩
  have U:=O.from_ i hi
  have Y:=O.to_ i hi
  obtain⟨F,I⟩:=Ap U.1
  have I:L[i].d=(F:Int):=I
  obtain⟨T,J⟩:=Ap Y.1
  have J:L[i].b=(T:Int):=J
  simp only [If.eq_2,FL hi,cT,Ar hi,JB (show i<lv.length by omega),BQ,I,J,JB (show F<l.length by omega),JB (show T<w.length by omega),BZ,wT i]
  have B:∀c:Bool,(gb lv i&& !gb l F)=c->∀q:Nat,(gb lv i&&(VD L i==(q:Int))&& !gb l (QT L i).toNat)=(c&&decide (T=q)):=fun c Z q=>by
   rw [Uy hi,MX hi,I,J,BZ,←Z]
   by_cases e:T=q
   ·subst e;simp
   ·have:((T:Int)==(q:Int))=false:=by rw [AJ];omega
    rw [this,Av e];simp
  cases c:gb lv i with
  |false=>
   refine .inl ⟨w,⟨H,fun q E=>?_⟩,rfl⟩
   rw [G q E,RU,B false (by rw [c];rfl)];simp
  |true=>
   cases d:gb l F with
   |true=>
    refine .inl ⟨w,⟨H,fun q E=>?_⟩,rfl⟩
    rw [G q E,RU,B false (by rw [c,d];rfl)];simp
   |false=>
    refine .inl ⟨w.set T true,⟨by simpa using H,fun q E=>?_⟩,rfl⟩
    rw [Kb (by omega),RU,B true (by rw [c,d];rfl),G q E]
    by_cases e:T=q
    ·simp [e]
    ·simp [e]
 ·rintro m w ⟨H,G⟩
  simp only [If.eq_2,Fh,cF]
  exact⟨w,H,G,_,rfl⟩
theorem AdF{N:Nat}{g:DK}(hL:Pb g.b.b N)(hl:g.b.b.length<=10000){r:List Int}(hr:r.length<=10000)(J:∀x∈r,0<=x∧x<(g.b.b.length:Int)){op:List Int}(O:op.length=N)(Z:∀q,q<N->0<=gd op q∧gd op q<=10000){K:Int->List Int->Option (List Int×Bool)}{m:Nat}(hm:1048577<=m):
 ∃B:List Int,B.length=N∧(∀q,q<N->gd B q=gd op q+(r.countP fun k=>VD g.b.b k.toNat==(q:Int)))∧∃j,OQ g r K m 0 op=K j B:=by
 refine loop (L:=fun m i s=>OQ g r K m i s) r.length (fun i s=>s.length=N∧∀q,q<N->gd s q=gd op q+((r.take i).countP fun k=>VD g.b.b k.toNat==(q:Int))) (fun o=>∃B:List Int,B.length=N∧(∀q,q<N->gd B q=gd op q+(r.countP fun k=>VD g.b.b k.toNat==(q:Int)))∧∃j,o=K j B) ?_ ?_ m 0 op (by omega) (by omega) ⟨O,fun q _=>by simp⟩
 ·rintro m i s hi ⟨I,F⟩
  have hx:=J _ (AQ hi)
  obtain⟨k,G⟩:=Ap hx.1
  have G:r[i]=(k:Int):=G
  have E:k<g.b.b.length:=by omega
  have Y:=hL.to_ k E
  obtain⟨T,H⟩:=Ap Y.1
  have H:g.b.b[k].b=(T:Int):=H
  have W:=F T (by omega)
  have a0:=Z T (by omega)
  have hc:((r.take i).countP fun k=>VD g.b.b k.toNat==(T:Int))<=10000:=BH CW (by simp;omega)
  simp only [OQ.eq_2,FL hi,cT,Ar hi,G,Ar E,BQ,H,gI (show T<s.length by omega),BZ,wT i,jn]
  refine .inl ⟨_,⟨by simpa using I,fun q U=>?_⟩,rfl⟩
  rw [KX (by omega),Bg hi,DV,List.countP_singleton,G,BZ,Uy E,H]
  by_cases e:T=q
  ·subst e
   rw [BE rfl,BV (by omega) (by omega),W];simp;omega
  ·have:((T:Int)==(q:Int))=false:=by rw [AJ];omega
   rw [BU e,F q U,this];simp
 ·rintro m s ⟨I,F⟩
  simp only [OQ.eq_2,Fh,cF,jn]
  rw [Ch]at F
  exact⟨s,I,F,_,rfl⟩
theorem AeT{N:Nat}{g:DK}(hL:Pb g.b.b N)(hl:g.b.b.length<=10000){r:List Int}(hr:r.length<=10000)(J:∀x∈r,0<=x∧x<(g.b.b.length:Int)){op:List Int}(O:op.length=N)(Z:∀q,q<N-> -1<=gd op q∧gd op q<=10000){K:Int->List Int->Option (List Int×Bool)}{m:Nat}(hm:1048577<=m):
 ∃B:List Int,B.length=N∧(∀q,q<N->gd B q=gd op q-(r.countP fun k=>VD g.b.b k.toNat==(q:Int)))∧∃j,Oc g r K m 0 op=K j B:=by
 refine loop (L:=fun m i s=>Oc g r K m i s) r.length (fun i s=>s.length=N∧∀q,q<N->gd s q=gd op q-((r.take i).countP fun k=>VD g.b.b k.toNat==(q:Int))) (fun o=>∃B:List Int,B.length=N∧(∀q,q<N->gd B q=gd op q-(r.countP fun k=>VD g.b.b k.toNat==(q:Int)))∧∃j,o=K j B) ?_ ?_ m 0 op (by omega) (by omega) ⟨O,fun q _=>by simp⟩
 ·rintro m i s hi ⟨I,F⟩
  have hx:=J _ (AQ hi)
  obtain⟨k,G⟩:=Ap hx.1
  have G:r[i]=(k:Int):=G
  have E:k<g.b.b.length:=by omega
  have Y:=hL.to_ k E
  obtain⟨T,H⟩:=Ap Y.1
  have H:g.b.b[k].b=(T:Int):=H
  have W:=F T (by omega)
  have a0:=Z T (by omega)
  have hc:((r.take i).countP fun k=>VD g.b.b k.toNat==(T:Int))<=10000:=BH CW (by simp;omega)
  simp only [Oc.eq_2,FL hi,cT,Ar hi,G,Ar E,BQ,H,gI (show T<s.length by omega),BZ,wT i,jn]
  refine .inl ⟨_,⟨by simpa using I,fun q U=>?_⟩,rfl⟩
  rw [KX (by omega),Bg hi,DV,List.countP_singleton,G,BZ,Uy E,H]
  by_cases e:T=q
  ·subst e
   rw [BE rfl,BV (by omega) (by omega),W];simp;omega
  ·have:((T:Int)==(q:Int))=false:=by rw [AJ];omega
   rw [BU e,F q U,this];simp
 ·rintro m s ⟨I,F⟩
  simp only [Oc.eq_2,Fh,cF,jn]
  rw [Ch]at F
  exact⟨s,I,F,_,rfl⟩
structure OrI(L:List Al)(lv:List Bool)(N:Nat)(o:List Int)(l:List Bool)(op:List Int):Prop where
 len:l.length=N
 olen:op.length=N
 old:∀q,q<N->gb l q=true->gd op q= -1∧NC L lv l (q:Int) L.length=0
 new:∀q,q<N->gb l q=false->gd op q=(NC L lv l (q:Int) L.length:Int)
theorem tW{n:Nat}{g:DK}{N:Nat}(hL:Pb g.b.b N)(hv:g.c.length=g.b.b.length)(hl:g.b.b.length<=10000)(hN:N<=1000)(hp:Rx n g.b=some (N:Int))(hn:1048577<=n):∃r,jE n (N:Int) g.b.b g.c=some r∧sQ n g=some r∧r.1.length<=N:=by
 rw [jE,sQ];(try simp only [jn]);rw [hp,Gc (by omega) (by omega),BQ,BQ,Gc (by omega) (by omega),BQ,AaI (by omega) hv hn,BQ]
 have b9:=iT g.b.b g.c
 obtain⟨Z,a1,a2,j0,a3⟩:=AdF (g:=g) hL hl (r:=QO (fun k=>gb g.c k) g.b.b.length) (BH (Qi _ _) hl) (fun x hx=>by obtain⟨k,h1,rfl,_⟩:=Xu hx;omega) (op:=List.replicate N 0) (by simp) (fun q B=>by rw [Pz];omega) (K:=fun c4 a7=>(Nz n g a7 (fun U a4 a6=>(some (U,true))) n (([]:List Int)) 0 a7)) (m:=n) hn
 rw [a3]
 have b5:∀(m i:Nat) (o:List Int) (l:List Bool) (op:List Int),i<=N->N-i<m->o.length=i->OrI g.b.b g.c N o l op->
  ∃r,JT n (N:Int) g.b.b g.c (fun J a0=>(some (J,true))) m o l=some r∧Nz n g Z (fun U a4 a6=>(some (U,true))) m o (i:Int) op=some r∧r.1.length<=N:=by
  intro m
  induction m with
  |zero=>intro i o l op _ h;omega
  |succ m ih=>
   intro i o l op hi hm ho I
   rw [JT.eq_2,Nz.eq_2];(try simp only [jn]);rw [ho,a1]
   by_cases c:i<N
   ·rw [FL c,cT,cT,Gc (by omega) (by omega),BQ]
    obtain⟨w,w1,w2,jw,ew⟩:=AcK (lv:=g.c) (l:=l) hL hv hl I.len (K:=fun c5 b8=>(Ig (N:Int) l b8 (fun E=>(cond (E==(N:Int)) (some (([]:List Int),false)) (Option.bind (AU l E) fun b7=>(Option.bind (EU o [E] 8) fun O=>(JT n (N:Int) g.b.b g.c (fun J a0=>(some (J,true))) m O ((l.set (E).toNat true))))))) n 0)) (m:=n) hn
    rw [ew]
    obtain⟨x,hx,ex⟩:=NxS (K:=fun E=>(cond (E==(N:Int)) (some (([]:List Int),false)) (Option.bind (AU l E) fun b7=>(Option.bind (EU o [E] 8) fun O=>(JT n (N:Int) g.b.b g.c (fun J a0=>(some (J,true))) m O ((l.set (E).toNat true))))))) I.len w1 hN n hn
    rw [ex]
    obtain⟨y,hy,ey⟩:=AfK (n:=n) (op:=op) (by have:=I.olen;omega) hn
    have b6:mP (fun q=>gb l q=false∧gb w q=false) N y:=by
     rw [I.olen]at hy
     refine⟨hy.1,fun q B=>?_,fun B=>?_⟩
     ·have a8:q<N:=by have:=hy.1;omega
      have h0:=hy.2.1 q B
      rintro ⟨h1,W⟩
      rw [w2 q a8]at W
      have W:=FI W
      have:=I.new q a8 h1
      exact h0 (by show gd op q=0;omega)
     ·have h0:gd op y=0:=hy.2.2 B
      cases c2:gb l y with
      |true=>have:=(I.old y B c2).1;omega
      |false=>
       have:=I.new y B c2
       exact⟨c2,by rw [w2 y B];exact Av (by omega)⟩
    obtain rfl:=hx.uniq b6
    rw [ey,BQ,I.olen]
    by_cases d:x<N
    ·have e1:((x:Int)==(N:Int))=false:=by rw [AJ];omega
     have e2:decide ((x:Int)<0)=false:=Av (by omega)
     rw [BE d,e1,e2,cF,cF,JB (by have:=I.len;omega),BQ,gI (show x<op.length by have:=I.olen;omega),BQ,CU (by simp;omega) (by omega),BQ,BQ,uA (by omega) hv hn,BQ,BZ]
     have F:=hx.2.2 d
     have c3:NC g.b.b g.c l (x:Int) g.b.b.length=0:=by
      have W:=F.2
      rw [w2 x d]at W
      have W:=FI W;omega
     have b0:∀q,q<N-> -1<=gd (op.set x (-1)) q∧gd (op.set x (-1)) q<=10000:=fun q B=>by
      rw [KX (by have:=I.olen;omega)]
      by_cases e:x=q
      ·rw [BE e];omega
      ·rw [BU e]
       cases c2:gb l q with
       |true=>have:=(I.old q B c2).1;omega
       |false=>have:=I.new q B c2;have:=b9 l (q:Int) g.b.b.length;omega
     obtain⟨b4,b1,b2,j2,b3⟩:=AeT (g:=g) hL hl (r:=QO (fun k=>gb g.c k&&(QT g.b.b k==(x:Int))) g.b.b.length) (BH (Qi _ _) hl) (fun z hz=>by obtain⟨k,h1,rfl,_⟩:=Xu hz;omega) (op:=op.set x (-1)) (by simpa using I.olen) b0 (K:=fun c0 a5=>(Nz n g Z (fun U a4 a6=>(some (U,true))) m (o++[(x:Int)]) (wrap .i64 ((i:Int)+1)) a5)) (m:=n) hn
     rw [b3,wS (by omega)]
     have hF:∀k,k<g.b.b.length->0<=QT g.b.b k:=fun k Y=>by rw [MX Y];exact(hL.from_ k Y).1
     have hs:∀q:Nat,NC g.b.b g.c (l.set x true) (q:Int) g.b.b.length+((QO (fun k=>gb g.c k&&(QT g.b.b k==(x:Int))) g.b.b.length).countP fun k=>VD g.b.b k.toNat==(q:Int))=NC g.b.b g.c l (q:Int) g.b.b.length:=fun q=>by
      rw [UD _ (fun k=>VD g.b.b k==(q:Int))]
      exact dP (by have:=I.len;omega) F.1 hF
     refine ih (i+1) (o++[(x:Int)]) (l.set x true) b4 (by omega) (by omega) (by simp [ho]) ⟨by simpa using I.len,b1,fun q B H=>?_,fun q B H=>?_⟩
     ·rw [Kb (by have:=I.len;omega)]at H
      have G:=b2 q B
      have a9:=hs q
      rw [KX (by have:=I.olen;omega)]at G
      by_cases e:x=q
      ·subst e
       rw [BE rfl]at G
       exact⟨by omega,by omega⟩
      ·rw [BU e]at G H
       have:=I.old q B H
       exact⟨by omega,by omega⟩
     ·rw [Kb (by have:=I.len;omega)]at H
      have G:=b2 q B
      have a9:=hs q
      rw [KX (by have:=I.olen;omega)]at G
      by_cases e:x=q
      ·rw [BE e]at H;cases H
      ·rw [BU e]at G H
       have:=I.new q B H
       omega
    ·have c1:x=N:=by have:=hx.1;omega
     have e1:((x:Int)==(N:Int))=true:=by rw [BB];omega
     have e2:decide ((-1:Int)<0)=true:=rfl
     rw [BU d,e1,e2,cT,cT]
     exact⟨_,rfl,rfl,by simp⟩
   ·have e:i=N:=by omega
    rw [e,Fh,cF,cF]
    exact⟨_,rfl,rfl,by show o.length<=N;omega⟩
 refine b5 n 0 [] (List.replicate N false) Z (by omega) (by omega) rfl ⟨by simp,a1,fun q B H=>?_,fun q B _=>?_⟩
 ·rw [show gb (List.replicate N false) q=false by simp [gb,B]]at H;cases H
 ·rw [a2 q B,Pz,UD _ (fun k=>VD g.b.b k==(q:Int))]
  have:((List.range g.b.b.length).countP fun k=>(VD g.b.b k==(q:Int))&&gb g.c k)=NC g.b.b g.c (List.replicate N false) (q:Int) g.b.b.length:=by
   unfold NC
   refine List.countP_congr fun k Y=>?_
   have Y:=FG.1 Y
   have hf:=hL.from_ k Y
   have:gb (List.replicate N false) (QT g.b.b k).toNat=false:=by
    rw [MX Y];simp [gb,show(g.b.b[k].d).toNat<N by omega]
   rw [this,BC,Bool.and_true,Bool.and_comm]
  rw [this];simp
theorem xT{n:Nat}{c:BG}(h:c.d.size<=1048576)(B:1048577<=n):∃r,Vm n c=some r∧ZO n c=some r:=by
 rw [Vm,ZO,Nm1 h B]
 obtain⟨k,rfl⟩:∃k,n=k+5:=⟨n-5,by omega⟩
 have J:wrap .i64 ((0:Int)+1)=1:=by decide
 have E:wrap .i64 ((1:Int)+1)=2:=by decide
 have U:wrap .i64 ((2:Int)+1)=3:=by decide
 have I:wrap .i64 ((3:Int)+1)=4:=by decide
 have H:AU [c.b,c.c,c.f,c.g] 0=some c.b:=rfl
 have G:AU [c.b,c.c,c.f,c.g] 1=some c.c:=rfl
 have F:AU [c.b,c.c,c.f,c.g] 2=some c.f:=rfl
 have W:AU [c.b,c.c,c.f,c.g] 3=some c.g:=rfl
 have O:(([c.b,c.c,c.f,c.g].length:Nat):Int)=4:=rfl
 simp only [LB.eq_2,O,show decide ((0:Int)<4)=true from rfl,show decide ((1:Int)<4)=true from rfl,show decide ((2:Int)<4)=true from rfl,show decide ((3:Int)<4)=true from rfl,show decide ((4:Int)<4)=false from rfl,cT,cF,H,G,F,W,J,E,U,I,BQ,Kz,xY h B,aL]
 refine⟨Ha c.d&&(decide (c.b>=100)&&decide (c.b<=c.c)&&decide (c.c<=5000))&&(decide (c.f>=100)&&decide (c.f<=c.g)&&decide (c.g<=5000)),?_,?_⟩
 ·cases h1:(decide (c.b>=100)&&decide (c.b<=5000))<;>cases h2:(decide (c.c>=100)&&decide (c.c<=5000))<;>cases h3:(decide (c.f>=100)&&decide (c.f<=5000))<;>cases h4:(decide (c.g>=100)&&decide (c.g<=5000))<;>cases Ha c.d<;>simp only [Ac,BC,cT,cF,FS,FF]<;>congr 1<;>rw [Dq]<;>simp at h1 h2 h3 h4 ⊢ <;>omega
 ·cases Ha c.d<;>cases(decide (c.b>=100)&&decide (c.b<=c.c)&&decide (c.c<=5000))<;>rfl
theorem YF{p:Nat->Bool}{i:Nat}(h:p i=true):∀{N:Nat},i<N->(QO p N)[(QO p i).length]? =some (i:Int)
 |0,h0=>by omega
 |N+1,h0=>by
  rw [Jj]
  by_cases e:i=N
  ·subst e;rw [h,BE rfl];simp
  ·have B:=YF h (N:=N) (by omega)
   rw [BA (AR.1 B).1];exact B
theorem rX{p:Nat->Bool}{i N:Nat}(h:p i=true)(hi:i<N):(QO p i).length<(QO p N).length∧AU (QO p N) ((QO p i).length:Int)=some (i:Int):=by
 have g:=YF h hi
 exact⟨(AR.1 g).1,by rw [HM];exact g⟩
theorem wV{m:Nat}{K:Bool->Int->Int->Int->Int->Option (Bool×Af)}{xs:List Af}{node:Int}(I:xs.length<=1048576)(J:1048577<=m):
 ((∀k (_:k<xs.length),xs[k].c≠node)∧Jw xs node K m false 0 0 0 0=K false (xs.length:Int) 0 0 0)∨∃k,∃h:k<xs.length,xs[k].c=node∧Jw xs node K m false 0 0 0 0=K true (xs.length:Int) xs[k].c xs[k].b.b xs[k].b.c:=by
 refine loop (L:=fun m i (s:Bool×Int×Int×Int)=>Jw xs node K m s.1 i s.2.1 s.2.2.1 s.2.2.2) xs.length
  (fun i s=>((∀k (_:k<xs.length),k<i->xs[k].c≠node)∧s=(false,0,0,0))∨∃k,∃h:k<xs.length,xs[k].c=node∧s=(true,xs[k].c,xs[k].b.b,xs[k].b.c))
  (fun o=>((∀k (_:k<xs.length),xs[k].c≠node)∧o=K false (xs.length:Int) 0 0 0)∨∃k,∃h:k<xs.length,xs[k].c=node∧o=K true (xs.length:Int) xs[k].c xs[k].b.b xs[k].b.c) ?_ ?_ m 0 (false,0,0,0) (by omega) (by omega) (.inl ⟨fun k _ h=>by omega,rfl⟩)
 ·intro m i s hi F
  simp only [Jw.eq_2,FL hi,cT,Ar hi,BQ,wT i]
  cases e:(xs[i].c==node)with
  |true=>exact .inl ⟨(true,xs[i].c,xs[i].b.b,xs[i].b.c),.inr ⟨i,hi,BB.1 e,rfl⟩,rfl⟩
  |false=>
   refine .inl ⟨s,?_,rfl⟩
   rcases F with ⟨E,H⟩|h
   ·refine .inl ⟨fun k B G=>?_,H⟩
    by_cases c:k=i
    ·subst c;exact AJ.1 e
    ·exact E k B (by omega)
   ·exact .inr h
 ·intro m s F
  simp only [Jw.eq_2,Fh,cF]
  rcases F with ⟨E,rfl⟩|⟨k,B,E,rfl⟩
  ·exact .inl ⟨fun k B=>E k B B,rfl⟩
  ·exact .inr ⟨k,B,E,rfl⟩
theorem AgB{n:Nat}{xs:List Af}{node:Int}(G:xs.length<=1048576)(H:1048577<=n):
 ((∀k (_:k<xs.length),xs[k].c≠node)∧ZC n xs node=some (-1))∨∃k,∃h:k<xs.length,xs[k].c=node∧ZC n xs node=some (k:Int):=by
 rw [ZC]
 refine loop (L:=fun m i (_:Unit)=>NT n xs node (fun _=>some (-1)) m i) xs.length
  (fun i _=>∀k (_:k<xs.length),k<i->xs[k].c≠node)
  (fun o=>((∀k (_:k<xs.length),xs[k].c≠node)∧o=some (-1))∨∃k,∃h:k<xs.length,xs[k].c=node∧o=some (k:Int)) ?_ ?_ n 0 () (by omega) (by omega) (fun k _ h=>by omega)
 ·intro m i _ hi E
  simp only [NT.eq_2,FL hi,cT,Ar hi,BQ,iK,wT i]
  cases e:(xs[i].c==node)with
  |true=>exact .inr (.inr ⟨i,hi,BB.1 e,rfl⟩)
  |false=>
   refine .inl ⟨(),fun k B F=>?_,rfl⟩
   by_cases c:k=i
   ·subst c;exact AJ.1 e
   ·exact E k B (by omega)
 ·intro m _ E
  simp only [NT.eq_2,Fh,cF]
  exact .inl ⟨fun k B=>E k B B,trivial⟩
theorem dK{b:AV}{xs:List Af}(h:∀i (h:i<xs.length),TZ b xs i xs[i]):∀(j i:Nat),i<j->j<xs.length->VN xs i<VN xs j
 |0,i,h0,_=>by omega
 |j+1,i,h0,h1=>by
  have u:=(h (j+1) h1).up
  have e:=PL h1
  have B:j+1-1=j:=rfl
  rw [B]at u
  by_cases c:i=j
  ·subst c;omega
  ·have:=dK h j i (by omega) (by omega);omega
theorem pE{b:AV}{xs:List Af}(h:∀i (h:i<xs.length),TZ b xs i xs[i]){i j:Nat}(hi:i<xs.length)(B:j<xs.length)(e:xs[i].c=xs[j].c):i=j:=by
 rcases Nat.lt_trichotomy i j with c|c|c
 ·have:=dK h j i c B;rw [PL hi,PL B]at this;omega
 ·exact c
 ·have:=dK h i j c hi;rw [PL hi,PL B]at this;omega
theorem Qg{α:Type}{t:List α}{i:Int}(E:0<=i)(B:i<t.length):∃x,AU t i=some x:=by
 obtain⟨x,e,_⟩:=Ia E B;exact⟨x,e⟩
theorem LkL{n:Nat}{b:AV}(v:Dd b){g:DK}(hg:NS n b g.b)(hv:g.c.length=(HV b).length){c:BG}{t:BW}{x:CY}(ht:(t.f.length:Int)=DF b)(a1:(x.c.length:Int)=DF b)(a0:(x.b.length:Int)=DF b){node:Int}(h0:0<=node∧node<DF b)(hn:1048577<=n):
 ∀(m E i:Nat) (q:Bool) (a e l:Int),i<=(HV b).length->(HV b).length-i<m->(HV b).length-i<E->(q=true->a=node)->∃(q':Bool) (s':Af),Hf n b c (HV b) g.c t x node (fun F a2 W U O=>(some (F,(Af.mk W ((Ax.mk U O)))))) m q (i:Int) a e l=some (q',s')∧
  LS n g c t x node (QO (fun k=>gb g.c k&&(QT (HV b) k==node)) (HV b).length) (fun a3 Y G I H=>(cond (!H) (some (false,(Af.mk 0 ((Ax.mk 0 0))))) (some (true,(Af.mk Y ((Ax.mk G I))))))) E ((QO (fun k=>gb g.c k&&(QT (HV b) k==node)) i).length:Int) node e l q=some (q',cond q' s' (Af.mk 0 ((Ax.mk 0 0)))):=by
 have Z:=hg.links
 have hL:=PA v
 have a5:=IJ v
 intro m
 induction m with
 |zero=>intro E i q a e l _ h;omega
 |succ m ih=>
  intro E i q a e l hi hm a4 J
  obtain⟨p,rfl⟩:∃p,E=p+1:=⟨E-1,by omega⟩
  by_cases c1:i<(HV b).length
  ·rw [Hf.eq_2,FL c1,cT,Ar c1,BQ,JB (show i<g.c.length by omega),BQ,wS (by omega)]
   have hT:=hL.to_ i c1
   cases d:(gb g.c i&&(QT (HV b) i==node))with
   |false=>
    have e1:(!gb g.c i||((HV b)[i].d !=node))=true:=by
     rw [MX c1]at d
     cases e0:gb g.c i with
     |false=>rfl
     |true=>rw [e0,FS]at d;simp only [bne,d];rfl
    have e2:(QO (fun k=>gb g.c k&&(QT (HV b) k==node)) (i+1)).length=(QO (fun k=>gb g.c k&&(QT (HV b) k==node)) i).length:=by rw [Jj,d];simp
    rw [e1,cT,BQ,cT]
    have:=ih (p+1) (i+1) q a e l (by omega) (by omega) (by omega) J
    rw [e2]at this
    exact this
   |true=>
    obtain⟨s1,s2⟩:=rX (p:=fun k=>gb g.c k&&(QT (HV b) k==node)) (i:=i) (N:=(HV b).length) d c1
    have s3:=Qi (fun k=>gb g.c k&&(QT (HV b) k==node)) i
    have e1:(!gb g.c i||((HV b)[i].d !=node))=false:=by
     rw [MX c1]at d
     have:=Bool.and_eq_true_iff.1 d
     rw [this.1];simp only [bne,this.2];rfl
    have e2:(QO (fun k=>gb g.c k&&(QT (HV b) k==node)) (i+1)).length=(QO (fun k=>gb g.c k&&(QT (HV b) k==node)) i).length+1:=by rw [Jj,d];simp
    obtain⟨B,eB⟩:=Qg (t:=x.c) (i:=(HV b)[i].b) hT.1 (by unfold DF at a1;omega)
    rw [e1,cF,eB,BQ,BQ,LS.eq_2];(try simp only [jn]);rw [FL s1,cT,s2,BQ,Z,Ar c1,BQ,eB,BQ,wS (by omega)]
    have go:=fun q a e l J=>ih p (i+1) q a e l (by omega) (by omega) (by omega) J
    rw [e2]at go
    cases B with
    |false=>exact go q a e l J
    |true=>
     obtain⟨R,eR⟩:=Qg (t:=x.b) (i:=(HV b)[i].b) hT.1 (by unfold DF at a0;omega)
     obtain⟨S,eS⟩:=Qg (t:=t.f) (i:=node) h0.1 (by omega)
     obtain⟨D,z,z',f1,f2⟩:=AcY (n:=n) (x:=(HV b)[i]) (k:=(i:Int)) (c:=c) (s:=S) v hg (AQ c1) (by rw [Z,Ar c1]) hn
     rw [Ac,cF,cT,eS,BQ,BQ,f1,f2,BQ,BQ,eR,BQ,BQ,BQ,BQ,YW]
     cases q with
     |false=>exact go true node _ _ fun _=>rfl
     |true=>
      rw [cT,Ac,cF,BQ,Int.max_comm,Int.min_comm]
      exact go true node _ _ fun _=>rfl
  ·have ei:i=(HV b).length:=by omega
   rw [ei,Hf.eq_2,LS.eq_2];(try simp only [jn]);rw [Fh,Fh,cF,cF]
   refine⟨q,_,rfl,?_⟩
   cases q with
   |false=>rfl
   |true=>rw [J rfl];rfl
theorem oQ{n:Nat}{b:AV}(v:Dd b){g:DK}(hg:NS n b g.b)(hv:g.c.length=(HV b).length){c:BG}{t:BW}{x:CY}{tg:List Af}(hl:tg.length<=1048576)(hT:∀i (h:i<tg.length),TZ b tg i tg[i])(a7:(t.c.length:Int)=DF b)(ht:(t.f.length:Int)=DF b)(a5:(x.c.length:Int)=DF b)(a0:(x.b.length:Int)=DF b){node:Int}(h0:0<=node∧node<DF b)(hn:1048577<=n):
 ∃(q:Bool) (s:Af),YI n b c (HV b) g.c t tg x node=some (q,s)∧ZL n g c t tg x node=some (q,cond q s (Af.mk 0 ((Ax.mk 0 0)))):=by
 have a6:=IJ v
 rw [YI,ZL];try simp only [jn]
 obtain⟨r,er⟩:=Qg (t:=t.c) (i:=node) h0.1 (by omega)
 rw [er,BQ,BQ]
 cases r with
 |false=>exact⟨false,_,rfl,rfl⟩
 |true=>
  have W:=uA (n:=n) (g:=g) (u:=node) (by rw [hg.links];omega) (by rw [hg.links];exact hv) hn
  rw [hg.links]at W
  rw [Ac,cF,cF,W]
  have go:=fun q a e l hq=>LkL (c:=c) v hg hv ht a5 a0 h0 hn n n 0 q a e l (by omega) (by omega) (by omega) hq
  have s0:((QO (fun k=>gb g.c k&&(QT (HV b) k==node)) 0).length:Int)=0:=rfl
  rw [s0]at go
  rcases AgB (n:=n) (xs:=tg) (node:=node) hl hn with ⟨a1,a2⟩|⟨k,Y,a1,a2⟩
  ·rw [a2,BQ,show decide ((-1:Int)>=0)=false from rfl,cF,BQ]
   rcases wV (m:=n) (K:=fun O a3 I H J=>(Hf n b c (HV b) g.c t x node (fun B Z G F E=>(some (B,(Af.mk G ((Ax.mk F E)))))) n O 0 I H J)) (xs:=tg) (node:=node) hl hn with ⟨_,b2⟩|⟨k,Y,U,_⟩
   ·rw [b2];exact go false 0 0 0 fun h=>by cases h
   ·exact absurd U (a1 k Y)
  ·rw [a2,BQ,Aw (show(k:Int)>=0 by omega),cT,Ar Y,BQ,YW,BC,cT,BQ,BQ]
   rcases wV (m:=n) (K:=fun O a3 I H J=>(Hf n b c (HV b) g.c t x node (fun B Z G F E=>(some (B,(Af.mk G ((Ax.mk F E)))))) n O 0 I H J)) (xs:=tg) (node:=node) hl hn with ⟨U,_⟩|⟨k',a4,U,b2⟩
   ·exact absurd a1 (U k Y)
   ·obtain rfl:=pE hT Y a4 (a1.trans U.symm)
    rw [b2,a1]
    exact go true node _ _ fun _=>rfl
theorem YR{α:Type}(f:Nat->Bool):∀(xs:List α) (s k:Nat),k<xs.length->gb (HZ (fun j (_:α)=>[f j]) s xs) k=f (s+k)
 |[],_,_,h=>absurd h (AX _)
 |_::_,s,0,_=>rfl
 |_::xs,s,k+1,h=>by
  have:=YR f xs (s+1) k (by simpa using h)
  rw [show s+(k+1)=s+1+k by omega,←this];rfl
theorem wP{n:Nat}{b:AV}{w:Cd}{br:List Int}(B:w.b=HV b)(U:(HV b).length<=1048576)(H:br.length<=1048576)(G:lC ((HV b).length:Int) br)(I:1048577<=n):qV n w br=some ⟨w,VJ b br⟩:=by
 obtain⟨lv,J,F,E⟩:=AeG (n:=n) (w:=w) (br:=br) (by rw [B];omega) H (by rw [B];exact G) I
 rw [B]at F E
 have:lv=VJ b br:=rQ (F.trans (Gu _ _ _).symm) fun j O=>by
  rw [E j (by omega),YR (fun k=>!(br.any fun y=>y==(k:Int))) (HV b) 0 j (by omega),DA]
 rw [J,this]
theorem xK{n:Nat}{s:Ax}:Tl n s=some (II s):=by
 simp only [Tl,Tg,Nv,BQ,EH];rfl
theorem vW{n:Nat}{s:Ax}:WW n s=some (II s):=by
 simp only [WW,Kz,BQ,EH];rfl
structure AcM(n:Nat)(b:AV)(c:BG)(br:List Int)(t:BW)(tg:List Af)(x:CY)(w:Cd)(od:List Int):Prop where
 blk:Dd b
 tim:kM b t
 nds:Vw b x
 tgs:∀i (h:i<tg.length),TZ b tg i tg[i]
 vw:NS n b w
 odl:od.length<=2*(pls b.b).length
 isb:WP n b=some true
 code:MZ n b c br t tg=some (od,0)
 graph:RQ n b c br t tg x=some (some ⟨w,VJ b br⟩,od,0)
structure AaT(n:Nat)(b:AV)(c:BG)(br:List Int)(t:BW)(tg:List Af)(x:CY)(k:Int):Prop where
 bad:(k !=0)=true
 graph:RQ n b c br t tg x=some (none,[],k)
 spec:(WP n b=some false∧k=1)∨(Dd b∧WP n b=some true∧((¬Vw b x∧k=1)∨(Vw b x∧MZ n b c br t tg=some ([],k))))
theorem NGr{n:Nat}{b:AV}{c:BG}{br:List Int}{t:BW}{tg:List Af}{x:CY}(hb:Qz b)(hc:c.d.size<=1048576)(H:br.length<=1048576)(ht:t.c.length<=1048576)(hx:x.c.length<=1048576)(a0:tg.length<=1048576)(E:1048577<=n):
 (∃w od,AcM n b c br t tg x w od)∨∃k,AaT n b c br t tg x k:=by
 obtain⟨cb,G,a1⟩:=gF hb E
 obtain⟨a5,U,a8⟩:=Bk2 hb E
 obtain rfl:cb=a5:=by rw [Dq,a1,a8]
 cases cb with
 |false=>exact .inr ⟨1,rfl,by rw [RQ,U];rfl,.inl ⟨G,rfl⟩⟩
 |true=>
  have v:=a1.1 rfl
  have vd:=v.design
  have hl:=EJ vd.short vd.few.1 vd.few.2.2
  have hL:=IJ v
  have wc:DF b=((2*(pls b.b).length:Nat):Int):=by unfold DF;omega
  obtain⟨B,ew,I⟩:=Vw4 (n:=n) v E
  have Y:NS n b ⟨b,B.d,B.b,B.g,B.f,B.h⟩:=⟨rfl,I.places,I.links,I.extras,I.data⟩
  have F:(⟨b,B.d,B.b,B.g,B.f,B.h⟩:Cd).b=HV b:=Y.links
  obtain⟨co,c1,W⟩:=xT (n:=n) hc E
  obtain⟨p,f1,hp⟩:=Tm1 (b:=b) ht E
  obtain⟨p2,f2,a7⟩:=Tm2 (r:=⟨b,B.d,B.b,B.g,B.f,B.h⟩) v Y.places ht E
  obtain rfl:p=p2:=by rw [Dq,hp,a7]
  obtain⟨q,g2,O⟩:=Ns2 (r:=⟨b,B.d,B.b,B.g,B.f,B.h⟩) v Y.places hx E
  obtain⟨r,r1,hr⟩:=Rs1 (n:=n) (br:=br) (N:=((HV b).length:Int)) H (by omega) E
  obtain⟨r',r2,Z⟩:=Rs2 (n:=n) (br:=br) (v:=⟨b,B.d,B.b,B.g,B.f,B.h⟩) H (by rw [F];omega) E
  rw [F]at Z
  obtain rfl:r=r':=by rw [Dq,hr,Z]
  obtain⟨u,u1,hu⟩:=Tg1 (xs:=tg) v a0 E
  obtain⟨u',u2,a3⟩:=Tg2 (r:=⟨b,B.d,B.b,B.g,B.f,B.h⟩) v Y.places a0 E
  obtain rfl:u=u':=by rw [Dq,hu,a3]
  cases q with
  |false=>
   refine .inr ⟨1,rfl,?_,.inr ⟨v,G,.inl ⟨fun h=>(by have:=O.2 h;cases this),rfl⟩⟩⟩
   rw [RQ]
   simp only [U,Ac,cF,W,BQ,ew,f2,g2]
   cases co with
   |false=>rfl
   |true=>cases p<;>rfl
  |true=>
   cases co with
   |false=>exact .inr ⟨1,rfl,by rw [RQ];simp only [U,Ac,cF,W,BQ,BC,cT],.inr ⟨v,G,.inr ⟨O.1 rfl,by rw [MZ];simp only [G,Ac,cF,c1,BQ,BC,cT]⟩⟩⟩
   |true=>
    cases p with
    |false=>exact .inr ⟨1,rfl,by rw [RQ];simp only [U,Ac,cF,W,BQ,ew,f2,BC,cT],.inr ⟨v,G,.inr ⟨O.1 rfl,by rw [MZ];simp only [G,Ac,cF,c1,BQ,Py v E,f1,BC,cT]⟩⟩⟩
    |true=>
     have i1:MZ n b c br t tg=(Option.bind (RN n b br) fun a2=>(Option.bind (cond (a2 !=0) (some true) (Option.bind (XF n b tg) fun a6=>(some (!a6)))) fun a4=>(cond a4 (some (([]:List Int),2)) (Option.bind (Tn n b br) fun J=>(some (J.1,J.2)))))):=by
      rw [MZ];simp only [G,Ac,cF,c1,BQ,Py v E,f1]
     have i2:RN n b br=some (cond r 0 2):=by
      rw [RN];simp only [G,Ac,cF,BQ,Sp v E,r1];cases r<;>rfl
     cases r with
     |false=>exact .inr ⟨2,rfl,by rw [RQ];simp only [U,Ac,cF,W,BQ,ew,f2,g2,r2,BC,cT],.inr ⟨v,G,.inr ⟨O.1 rfl,by rw [i1,i2];rfl⟩⟩⟩
     |true=>
      cases u with
      |false=>exact .inr ⟨2,rfl,by rw [RQ];simp only [U,Ac,cF,W,BQ,ew,f2,g2,r2,u2,BC,cT],.inr ⟨v,G,.inr ⟨O.1 rfl,by rw [i1,i2];simp only [cT,BQ,Cj,cF,u1,BC]⟩⟩⟩
      |true=>
       have i4:=wP (n:=n) (w:=⟨b,B.d,B.b,B.g,B.f,B.h⟩) F (by omega) H (hr.1 rfl) E
       have i5:=Wp (n:=n) (r:=⟨b,B.d,B.b,B.g,B.f,B.h⟩) v Y.places
       obtain⟨od,o1,o2,o3⟩:=tW (n:=n) (g:=⟨⟨b,B.d,B.b,B.g,B.f,B.h⟩,VJ b br⟩) (N:=2*(pls b.b).length) (by rw [F];exact PA v) (by rw [F];exact Gu _ _ _) (by rw [F];omega) (by omega) (by rw [←wc];exact i5) E
       rw [F,←wc]at o1
       have j1:MZ n b c br t tg=some (cond od.2 (od.1,0) ([],7)):=by
        rw [i1,i2];simp only [cT,BQ,Cj,cF,u1,Ac,Tn,i2,Sp v E,Py v E,pH (n:=n) (L:=HV b) (br:=br) (by omega) H E,o1]
        cases od.2<;>rfl
       have j2:RQ n b c br t tg x=cond (!od.2) (some (none,([]:List Int),7)) (some (some ⟨⟨b,B.d,B.b,B.g,B.f,B.h⟩,VJ b br⟩,od.1,0)):=by
        rw [RQ];simp only [U,Ac,cF,W,BQ,ew,f2,g2,r2,u2,i4,o2]
       cases z:od.2 with
       |false=>rw [z]at j1 j2;exact .inr ⟨7,rfl,j2,.inr ⟨v,G,.inr ⟨O.1 rfl,j1⟩⟩⟩
       |true=>rw [z]at j1 j2;exact .inl ⟨_,od.1,v,hp.1 rfl,O.1 rfl,hu.1 rfl,Y,o3,G,j1,j2⟩
def zS:Ax:=⟨0,0⟩
theorem UO{α:Type}{l:List α}{x:Int}{v:α}(h:AU l x=some v):l.set x.toNat v=l:=by
 obtain⟨G,F,B⟩:=Gf h
 refine Cl fun j=>?_
 rw [EQ]
 by_cases e:x.toNat=j
 ·subst e
  have E:x.toNat<l.length:=(AR.1 B).1
  rw [BE rfl,BE E,B]
 ·rw [BU e]
theorem Sg{α:Type}{l:List α}{x y:Int}{v u:α}(H:0<=x)(E:x≠y)(h:AU l y=some v):AU (l.set x.toNat u) y=some v:=by
 obtain⟨F,G,B⟩:=Gf h
 obtain⟨Y,rfl⟩:=Ap F
 rw [HM,EQ,BU (by omega)]
 rw [BZ]at B;exact B
theorem zD{n:Nat}{b:AV}(v:Dd b){g:DK}(hg:NS n b g.b)(hv:g.c.length=(HV b).length){c:BG}{t:BW}{tg:List Af}(hl:tg.length<=1048576)(hT:∀i (h:i<tg.length),TZ b tg i tg[i])(Y:(t.c.length:Int)=DF b)(ht:(t.f.length:Int)=DF b)
 {od:List Int} (Z:∀x∈od,0<=x∧x<DF b) (U:od.length<=1000) (W:∀i (h:i<od.length),od[i] ∉ od.take i) (hn:1048577<=n):
 ∀(i m I:Nat) (l1:List Bool) (l2:List Ax),i<=od.length->i<m->i<I->(l1.length:Int)=DF b->(l2.length:Int)=DF b->(∀k (_:k<od.length),k<i->AU l1 od[k]=some false∧AU l2 od[k]=some zS)->
  (∃x:CY,(x.c.length:Int)=DF b∧(x.b.length:Int)=DF b∧Ic n b c t tg (od,0) (HV b) g.c (fun a4 F G=>(some ((CY.mk F G),0))) m ((i:Int)-1) l1 l2=some (x,0)∧KP n g c t tg od (fun a3 B E=>(some ((CY.mk B E),true))) I ((i:Int)-1) l1 l2=some (x,true))∨
  (Ic n b c t tg (od,0) (HV b) g.c (fun a4 F G=>(some ((CY.mk F G),0))) m ((i:Int)-1) l1 l2=some (⟨[],[]⟩,3)∧KP n g c t tg od (fun a3 B E=>(some ((CY.mk B E),true))) I ((i:Int)-1) l1 l2=some (⟨[],[]⟩,false))
 |0,m,I,l1,l2,_,hm,hm',h1,h2,_=>by
  obtain⟨p,rfl⟩:∃p,m=p+1:=⟨m-1,by omega⟩
  obtain⟨p',rfl⟩:∃p,I=p+1:=⟨I-1,by omega⟩
  refine .inl ⟨⟨l1,l2⟩,h1,h2,?_,?_⟩
  ·rw [Ic.eq_2];rfl
  ·rw [KP.eq_2];rfl
 |i+1,m,I,l1,l2,hi,hm,hm',h1,h2,hd=>by
  obtain⟨p,rfl⟩:∃p,m=p+1:=⟨m-1,by omega⟩
  obtain⟨p',rfl⟩:∃p,I=p+1:=⟨I-1,by omega⟩
  have J:i<od.length:=by omega
  have ei:(((i+1:Nat):Int)-1)=(i:Int):=by omega
  have hx:=Z _ (AQ J)
  have hw:wrap .i64 ((i:Int)-1)=(i:Int)-1:=BV (by omega) (by omega)
  obtain⟨d1,d2⟩:=hd i J (by omega)
  obtain⟨q,s,a1,a2⟩:=oQ (c:=c) (t:=t) (x:=⟨l1,l2⟩) (tg:=tg) v hg hv hl hT Y ht h1 h2 hx hn
  have a0:∀k (O:k<od.length),k<i->od[i]≠od[k]:=fun k O H e=>W i J (e▸By.2 ⟨k,by omega,rfl⟩)
  rw [ei,Ic.eq_2,KP.eq_2,Aw (show(i:Int)>=0 by omega),cT,cT,Ar J,BQ,BQ,a1,a2,BQ,BQ,xK,BQ,hw]
  cases q with
  |false=>
   have ez:II (Af.mk 0 (Ax.mk 0 0)).b=true:=by decide
   rw [cF,BC,cT,ez,Ac,cF,d1,BQ,d2,BQ]
   have e1:l1.set (od[i]).toNat false=l1:=UO d1
   have e2:l2.set (od[i]).toNat (Af.mk 0 (Ax.mk 0 0)).b=l2:=UO d2
   rw [e1,e2]
   exact zD v hg hv hl hT Y ht Z U W hn i p p' l1 l2 (by omega) (by omega) (by omega) h1 h2 fun k O H=>hd k O (by omega)
  |true=>
   rw [cT,Ac,cF,vW,BQ]
   cases II s.b with
   |false=>exact .inr ⟨rfl,rfl⟩
   |true=>
    rw [Ac,cF,cF,d1,BQ,d2,BQ,BQ,BQ]
    exact zD v hg hv hl hT Y ht Z U W hn i p p' _ _ (by omega) (by omega) (by omega) (by simpa using h1) (by simpa using h2) fun k O H=>
     ⟨Sg hx.1 (a0 k O H) (hd k O (by omega)).1,Sg hx.1 (a0 k O H) (hd k O (by omega)).2⟩
structure AbJ(n:Nat)(b:AV)(c:BG)(br:List Int)(t:BW)(tg:List Af)(w:Cd)(od:List Int):Prop where
 blk:Dd b
 tim:kM b t
 tgs:∀i (h:i<tg.length),TZ b tg i tg[i]
 vw:NS n b w
 odl:od.length<=2*(pls b.b).length
 rng:∀x∈od,0<=x∧x<((2*(pls b.b).length:Nat):Int)
 top:Tw (HV b) (VJ b br) od
 full:2*(pls b.b).length<=od.length
 code:MZ n b c br t tg=some (od,0)
 graph:Ry n b c br t tg=some (some ⟨w,VJ b br⟩,od,0)
structure AeC(n:Nat)(b:AV)(c:BG)(br:List Int)(t:BW)(tg:List Af)(k:Int):Prop where
 bad:(k !=0)=true
 graph:Ry n b c br t tg=some (none,[],k)
 spec:MZ n b c br t tg=some ([],k)
theorem NRr{n:Nat}{b:AV}{c:BG}{br:List Int}{t:BW}{tg:List Af}(hb:Qz b)(hc:c.d.size<=1048576)(G:br.length<=1048576)(ht:t.c.length<=1048576)(W:tg.length<=1048576)(E:1048577<=n):
 (∃w od,AbJ n b c br t tg w od)∨∃k,AeC n b c br t tg k:=by
 obtain⟨cb,e1,a0⟩:=gF hb E
 obtain⟨a4,O,a7⟩:=Bk2 hb E
 obtain rfl:cb=a4:=by rw [Dq,a0,a7]
 cases cb with
 |false=>exact .inr ⟨1,rfl,by rw [Ry,O];rfl,by rw [MZ,e1];rfl⟩
 |true=>
  have v:=a0.1 rfl
  have vd:=v.design
  have hl:=EJ vd.short vd.few.1 vd.few.2.2
  have hL:=IJ v
  have wc:DF b=((2*(pls b.b).length:Nat):Int):=by unfold DF;omega
  obtain⟨B,ew,H⟩:=Vw4 (n:=n) v E
  have Z:NS n b ⟨b,B.d,B.b,B.g,B.f,B.h⟩:=⟨rfl,H.places,H.links,H.extras,H.data⟩
  have F:(⟨b,B.d,B.b,B.g,B.f,B.h⟩:Cd).b=HV b:=Z.links
  obtain⟨co,c1,Y⟩:=xT (n:=n) hc E
  obtain⟨p,f1,hp⟩:=Tm1 (b:=b) ht E
  obtain⟨p2,f2,a6⟩:=Tm2 (r:=⟨b,B.d,B.b,B.g,B.f,B.h⟩) v Z.places ht E
  obtain rfl:p=p2:=by rw [Dq,hp,a6]
  obtain⟨r,r1,hr⟩:=Rs1 (n:=n) (br:=br) (N:=((HV b).length:Int)) G (by omega) E
  obtain⟨r',r2,U⟩:=Rs2 (n:=n) (br:=br) (v:=⟨b,B.d,B.b,B.g,B.f,B.h⟩) G (by rw [F];omega) E
  rw [F]at U
  obtain rfl:r=r':=by rw [Dq,hr,U]
  obtain⟨u,u1,hu⟩:=Tg1 (xs:=tg) v W E
  obtain⟨u',u2,a2⟩:=Tg2 (r:=⟨b,B.d,B.b,B.g,B.f,B.h⟩) v Z.places W E
  obtain rfl:u=u':=by rw [Dq,hu,a2]
  cases co with
  |false=>exact .inr ⟨1,rfl,by rw [Ry];simp only [O,Fu,Ac,cF,Y,BQ,BC,cT],by rw [MZ];simp only [e1,Ac,cF,c1,BQ,BC,cT]⟩
  |true=>
   cases p with
   |false=>exact .inr ⟨1,rfl,by rw [Ry];simp only [O,Fu,Ac,cF,Y,BQ,ew,f2,BC,cT],by rw [MZ];simp only [e1,Ac,cF,c1,BQ,Py v E,f1,BC,cT]⟩
   |true=>
    have i1:MZ n b c br t tg=(Option.bind (RN n b br) fun a1=>(Option.bind (cond (a1 !=0) (some true) (Option.bind (XF n b tg) fun a5=>(some (!a5)))) fun a3=>(cond a3 (some (([]:List Int),2)) (Option.bind (Tn n b br) fun I=>(some (I.1,I.2)))))):=by
     rw [MZ];simp only [e1,Ac,cF,c1,BQ,Py v E,f1]
    have i2:RN n b br=some (cond r 0 2):=by
     rw [RN];simp only [e1,Ac,cF,BQ,Sp v E,r1];cases r<;>rfl
    cases r with
    |false=>exact .inr ⟨2,rfl,by rw [Ry];simp only [O,Fu,Ac,cF,Y,BQ,ew,f2,r2,BC,cT],by rw [i1,i2];rfl⟩
    |true=>
     cases u with
     |false=>exact .inr ⟨2,rfl,by rw [Ry];simp only [O,Fu,Ac,cF,Y,BQ,ew,f2,r2,u2,BC,cT],by rw [i1,i2];simp only [cT,BQ,Cj,cF,u1,BC]⟩
     |true=>
      have i4:=wP (n:=n) (w:=⟨b,B.d,B.b,B.g,B.f,B.h⟩) F (by omega) G (hr.1 rfl) E
      have i5:=Wp (n:=n) (r:=⟨b,B.d,B.b,B.g,B.f,B.h⟩) v Z.places
      obtain⟨od,o1,o2,o3⟩:=tW (n:=n) (g:=⟨⟨b,B.d,B.b,B.g,B.f,B.h⟩,VJ b br⟩) (N:=2*(pls b.b).length) (by rw [F];exact PA v) (by rw [F];exact Gu _ _ _) (by rw [F];omega) (by omega) (by rw [←wc];exact i5) E
      rw [F,←wc]at o1
      have j1:MZ n b c br t tg=some (cond od.2 (od.1,0) ([],7)):=by
       rw [i1,i2];simp only [cT,BQ,Cj,cF,u1,Ac,Tn,i2,Sp v E,Py v E,pH (n:=n) (L:=HV b) (br:=br) (by omega) G E,o1]
       cases od.2<;>rfl
      have j2:Ry n b c br t tg=cond (!od.2) (some (none,([]:List Int),7)) (some (some ⟨⟨b,B.d,B.b,B.g,B.f,B.h⟩,VJ b br⟩,od.1,0)):=by
       rw [Ry];simp only [O,Fu,Ac,cF,Y,BQ,ew,f2,r2,u2,i4,o2]
      cases z:od.2 with
      |false=>rw [z]at j1 j2;exact .inr ⟨7,rfl,j2,j1⟩
      |true=>
       rw [z]at j1 j2
       have J:=o1
       rw [wc]at J
       obtain⟨r3,s1,s2⟩:=yU (n:=n) (lv:=VJ b br) (PA v) (Gu _ _ _) (by omega) (by omega) E
       obtain⟨r4,s3,s4⟩:=zQ (n:=n) (lv:=VJ b br) (PA v) (Gu _ _ _) (by omega) (by omega) E
       obtain rfl:od=r3:=Ai (J.symm.trans s1)
       obtain rfl:od=r4:=Ai (J.symm.trans s3)
       exact .inl ⟨_,od.1,v,hp.1 rfl,hu.1 rfl,Z,o3,s2.2,(s4 z).1,(s4 z).2,j1,j2⟩
theorem PrE{n:Nat}{b:AV}{c:BG}{br:List Int}{t:BW}{tg:List Af}(hb:Qz b)(hc:c.d.size<=1048576)(G:br.length<=1048576)(ht:t.c.length<=1048576)(F:tg.length<=1048576)(H:1048577<=n):
 ∃(x:CY) (k:Int),(x.c.length<=1048576∧x.b.length<=1048576)∧XZ n b c br t tg=some (x,k)∧dT n b c br t tg=some (x,k):=by
 rw [XZ,dT];try simp only [jn]
 rcases NRr (c:=c) (t:=t) (tg:=tg) hb hc G ht F H with ⟨w,od,h⟩|⟨k,h⟩
 ·have v:=h.blk
  have U:=v.design
  have hl:=EJ U.short U.few.1 U.few.2.2
  have hL:=IJ v
  have E:DF b=((2*(pls b.b).length:Nat):Int):=by unfold DF;omega
  have Y:NS n b ⟨b,w.d,w.b,w.g,w.f,w.h⟩:=⟨rfl,h.vw.places,h.vw.links,h.vw.extras,h.vw.data⟩
  have i5:=Wp (n:=n) (r:=⟨b,w.d,w.b,w.g,w.f,w.h⟩) v Y.places
  have Z:=h.odl
  have z1:∀x:Int,0<=x∧x<DF b->AU (List.replicate (2*(pls b.b).length) false) x=some false∧AU (List.replicate (2*(pls b.b).length) (Ax.mk 0 0)) x=some zS:=fun x O=>by
   obtain⟨N,rfl⟩:=Ap O.1
   have hN:N<2*(pls b.b).length:=by omega
   rw [HM,HM]
   constructor
   ·simp [hN]
   ·simp [hN,zS]
  have B:∀x∈od,0<=x∧x<DF b:=fun x O=>by rw [E];exact h.rng x O
  have wl:wrap .i64 ((od.length:Int)-1)=(od.length:Int)-1:=BV (by omega) (by omega)
  have J:=zD (g:=⟨⟨b,w.d,w.b,w.g,w.f,w.h⟩,VJ b br⟩) (c:=c) (t:=t) (tg:=tg) (od:=od) v Y (Gu _ _ _) F h.tgs h.tim.reached h.tim.slew B (by omega) h.top.nodup H od.length n n (List.replicate (2*(pls b.b).length) false) (List.replicate (2*(pls b.b).length) (Ax.mk 0 0)) (Bj _) (by omega) (by omega) (by rw [E];simp) (by rw [E];simp) (fun k hk _=>z1 _ (B _ (AQ hk)))
  simp only [h.code,h.graph,BQ,Cj,cF,Tb,Sp v H,pH (n:=n) (L:=HV b) (br:=br) (by omega) G H,Py v H,gM,i5]
  rw [E,Gc (by omega) (by omega),BQ,Gc (by omega) (by omega),BQ,BQ,BQ,wl]
  rcases J with ⟨x,x1,x2,I,W⟩|⟨I,W⟩
  ·refine⟨x,0,⟨by rw [E]at x1;omega,by rw [E]at x2;omega⟩,I,?_⟩
   rw [W];rfl
  ·refine⟨⟨[],[]⟩,3,⟨by simp,by simp⟩,I,?_⟩
   rw [W];rfl
 ·refine⟨⟨[],[]⟩,k,⟨by simp,by simp⟩,?_,?_⟩
  ·rw [h.spec,BQ,h.bad,cT]
  ·rw [h.graph,BQ]
   simp only [Tb,h.bad,cT]
theorem pig:∀(N:Nat) (o:List Int),o.Nodup->(∀x∈o,0<=x∧x<(N:Int))->o.length<=N
 |0,o,_,h=>by
  cases o with
  |nil=>exact Bj _
  |cons x _=>have:=h x Co;omega
 |N+1,o,hd,h=>by
  by_cases hm:(N:Int)∈o
  ·have:=pig N (o.erase (N:Int)) (hd.erase _) fun x B=>by
    obtain⟨F,E⟩:=hd.mem_erase_iff.1 B
    have:=h x E;omega
   rw [List.length_erase_of_mem hm]at this;omega
  ·have:=pig N o hd fun x B=>by
    have:=h x B
    have:x≠(N:Int):=fun e=>hm (e▸B)
    omega
   omega
theorem qN{N:Nat}{o:List Int}(B:∀i (h:i<o.length),o[i] ∉ o.take i)(G:∀x∈o,0<=x∧x<(N:Int))(U:N<=o.length){x:Int}(I:0<=x)(H:x<(N:Int)):x∈o:=by
 refine EW fun O=>?_
 have E:o.Nodup:=by
  refine List.pairwise_iff_getElem.2 fun i j hi F J e=>B j F ?_
  rw [←e];exact By.2 ⟨i,by omega,rfl⟩
 have:=pig N (x::o) (List.nodup_cons.2 ⟨O,E⟩) fun y hy=>by
  rcases DX.1 hy with rfl|hy
  ·exact⟨I,H⟩
  ·exact G y hy
 simp at this;omega
theorem Jb{α:Type}{l:List α}{x y:Int}{u:α}(E:0<=x)(B:x≠y):AU (l.set x.toNat u) y=AU l y:=by
 unfold AU
 by_cases h0:0<=y
 ·rw [BE h0,BE h0,EQ,BU (by omega)]
 ·rw [BU h0,BU h0]
theorem UA{α:Type}{l:List α}{x:Int}{v u:α}(h:AU l x=some v):AU (l.set x.toNat u) x=some u:=by
 obtain⟨B,E,F⟩:=Gf h
 unfold AU
 rw [BE B,EQ,BE rfl,BE (by omega)]
def RG(k:Int)(o:Option (Bool×Af)):Prop:=∀r,o=some r->r.1=true->r.2.c=k
theorem RG.bind{α:Type}{k:Int}{o:Option α}{f:α->Option (Bool×Af)}(h:∀v,o=some v->RG k (f v)):RG k (Option.bind o f):=by
 cases o with
 |none=>exact fun r e=>by cases e
 |some v=>exact h v rfl
theorem RG.bif{k:Int}{c:Bool}{x y:Option (Bool×Af)}(B:c=true->RG k x)(E:c=false->RG k y):RG k (cond c x y):=by
 cases c
 ·exact E rfl
 ·exact B rfl
theorem qW{k:Int}{tg:List Af}{K:Bool->Int->Int->Int->Int->Option (Bool×Af)}(B:∀q i a d e,(q=true->a=k)->RG k (K q i a d e)):∀(m:Nat) (q:Bool) (i a d e:Int),(q=true->a=k)->RG k (Jw tg k K m q i a d e)
 |0,_,_,_,_,_,_=>fun r e=>by cases e
 |m+1,q,i,a,d,e,h=>by
  rw [Jw.eq_2]
  exact RG.bif (fun _=>RG.bind fun x F=>RG.bif (fun c=>RG.bind fun y E=>qW B m true _ _ _ _ fun _=>by rw [F]at E;cases E;exact BB.1 c) fun _=>qW B m q _ _ _ _ h) fun _=>B _ _ _ _ _ h
theorem gT{n:Nat}{b:AV}{c:BG}{L:List Al}{lv:List Bool}{t:BW}{x:CY}{k:Int}{K:Bool->Int->Int->Int->Int->Option (Bool×Af)}(B:∀q i a d e,(q=true->a=k)->RG k (K q i a d e)):∀(m:Nat) (q:Bool) (i a d e:Int),(q=true->a=k)->RG k (Hf n b c L lv t x k K m q i a d e)
 |0,_,_,_,_,_,_=>fun r e=>by cases e
 |m+1,q,i,a,d,e,h=>by
  rw [Hf.eq_2]
  exact RG.bif (fun _=>RG.bind fun _ _=>RG.bind fun _ _=>RG.bind fun _ _=>RG.bif (fun _=>gT B m q _ _ _ _ h) fun _=>RG.bind fun _ _=>RG.bind fun _ _=>RG.bind fun _ _=>RG.bind fun _ _=>RG.bif (fun _=>gT B m true _ _ _ _ fun _=>rfl) fun _=>gT B m true _ _ _ _ fun _=>rfl) fun _=>B _ _ _ _ _ h
theorem NmN{n:Nat}{b:AV}{c:BG}{L:List Al}{lv:List Bool}{t:BW}{tg:List Af}{x:CY}{k:Int}:RG k (YI n b c L lv t tg x k):=by
 rw [YI]
 exact RG.bind fun _ _=>RG.bif (fun _ r e h=>by cases e;cases h) fun _=>qW (fun q i a d e h=>gT (fun q i a d e h r B E=>by cases B;exact h E) n q 0 a d e h) n false 0 0 0 0 fun h=>by cases h
theorem nF{n:Nat}{b:AV}{c:BG}{L:List Al}{lv:List Bool}{t:BW}{x y:CY}{k:Int}{K:Bool->Int->Int->Int->Int->Option (Bool×Af)}(h:∀(i:Int) (l:Al),AU L i=some l->AU lv i=some true->l.d=k->AU x.c l.b=AU y.c l.b∧AU x.b l.b=AU y.b l.b):∀(m:Nat) (q:Bool) (i a d e:Int),Hf n b c L lv t x k K m q i a d e=Hf n b c L lv t y k K m q i a d e
 |0,_,_,_,_,_=>rfl
 |m+1,q,i,a,d,e=>by
  have B:=nF (n:=n) (b:=b) (c:=c) (t:=t) (K:=K) h m
  rw [Hf.eq_2,Hf.eq_2]
  cases decide (i<(L.length:Int))with
  |false=>rfl
  |true=>
   rw [cT,cT]
   cases e1:AU L i with
   |none=>rfl
   |some l=>
    rw [BQ,BQ]
    cases e2:AU lv i with
    |none=>rfl
    |some v=>
     rw [BQ,BQ]
     cases e3:(!v||l.d !=k)with
     |true=>simp only [cT,BQ,B]
     |false=>
      simp only [BS,CJ,Bp]at e3
      obtain⟨rfl,G⟩:=e3
      obtain⟨E,F⟩:=h i l e1 e2 G
      simp only [cF,E,F,B]
theorem AaN{n:Nat}{b:AV}{c:BG}{L:List Al}{lv:List Bool}{t:BW}{tg:List Af}{x y:CY}{k:Int}(h:∀(i:Int) (l:Al),AU L i=some l->AU lv i=some true->l.d=k->AU x.c l.b=AU y.c l.b∧AU x.b l.b=AU y.b l.b):YI n b c L lv t tg x k=YI n b c L lv t tg y k:=by
 rw [YI,YI]
 have:∀(K:Bool->Int->Int->Int->Int->Option (Bool×Af)),(fun q i a d e=>Hf n b c L lv t x k K n q 0 a d e:Bool->Int->Int->Int->Int->Option (Bool×Af))=fun q i a d e=>Hf n b c L lv t y k K n q 0 a d e:=fun K=>by
  funext q i a d e
  exact nF h n q 0 a d e
 rw [this]
structure VX(n:Nat)(b:AV)(c:BG)(lv:List Bool)(t:BW)(tg:List Af)(x:CY)(u:Int)(q:Bool)(s:Af):Prop where
 node:YI n b c (HV b) lv t tg x u=some (q,s)
 bnd:AU x.c u=some q
 yes:q=true->AU x.b u=some s.b∧II s.b=true
 no:q=false->AU x.b u=some zS
theorem sG{n:Nat}{b:AV}(v:Dd b){g:DK}(hg:NS n b g.b)(hv:g.c.length=(HV b).length){c:BG}{t:BW}{tg:List Af}(hl:tg.length<=1048576)(hT:∀i (h:i<tg.length),TZ b tg i tg[i])(W:(t.c.length:Int)=DF b)(ht:(t.f.length:Int)=DF b)
 {od:List Int} (Y:∀x∈od,0<=x∧x<DF b) (G:od.length<=1000) (hO:Tw (HV b) g.c od) (hn:1048577<=n):
 ∀(i m:Nat) (l1:List Bool) (l2:List Ax),i<=od.length->i<m->(l1.length:Int)=DF b->(l2.length:Int)=DF b->(∀k (_:k<od.length),k<i->AU l1 od[k]=some false∧AU l2 od[k]=some zS)->
  (∀k (_:k<od.length),i<=k->∃q s,VX n b c g.c t tg ⟨l1,l2⟩ od[k] q s)->
  ∀x,Ic n b c t tg (od,0) (HV b) g.c (fun a6 Z a2=>(some ((CY.mk Z a2),0))) m ((i:Int)-1) l1 l2=some (x,0)->∀k (_:k<od.length),∃q s,VX n b c g.c t tg x od[k] q s
 |0,m,l1,l2,_,hm,h1,h2,_,hf=>by
  obtain⟨p,rfl⟩:∃p,m=p+1:=⟨m-1,by omega⟩
  intro x e k B
  rw [Ic.eq_2]at e
  have e:some ((CY.mk l1 l2),(0:Int))=some (x,0):=e
  cases e
  exact hf k B (Nat.zero_le _)
 |i+1,m,l1,l2,hi,hm,h1,h2,hd,hf=>by
  obtain⟨p,rfl⟩:∃p,m=p+1:=⟨m-1,by omega⟩
  have F:i<od.length:=by omega
  have ei:(((i+1:Nat):Int)-1)=(i:Int):=by omega
  have I:=Y _ (AQ F)
  have hw:wrap .i64 ((i:Int)-1)=(i:Int)-1:=BV (by omega) (by omega)
  obtain⟨d1,d2⟩:=hd i F (by omega)
  obtain⟨q,s,a1,_⟩:=oQ (c:=c) (t:=t) (x:=⟨l1,l2⟩) (tg:=tg) v hg hv hl hT W ht h1 h2 I hn
  have U:=hO.nodup
  have a4:∀k (B:k<od.length),i<k->od[i]≠od[k]:=fun k B E e=>U k B (e▸By.2 ⟨i,by omega,rfl⟩)
  have H:∀k (B:k<od.length),k<i->od[i]≠od[k]:=fun k B E e=>U i F (e▸By.2 ⟨k,by omega,rfl⟩)
  intro x e
  rw [ei,Ic.eq_2,Aw (show(i:Int)>=0 by omega),cT,Ar F,BQ,a1,BQ,hw]at e
  cases q with
  |false=>
   rw [BC,cT]at e
   refine sG v hg hv hl hT W ht Y G hO hn i p l1 l2 (by omega) (by omega) h1 h2 (fun k B E=>hd k B (by omega)) (fun k B E=>?_) x e
   by_cases ek:k=i
   ·subst ek;exact⟨false,s,a1,d1,fun h=>(by cases h),fun _=>d2⟩
   ·exact hf k B (by omega)
  |true=>
   rw [Ac,cF,vW,BQ]at e
   cases hts:II s.b with
   |false=>rw [hts]at e;cases e
   |true=>
    rw [hts,Ac,cF,d1,BQ,d2,BQ]at e
    have J:∀k (B:k<od.length),i<=k->YI n b c (HV b) g.c t tg ⟨l1.set (od[i]).toNat true,l2.set (od[i]).toNat s.b⟩ od[k]=YI n b c (HV b) g.c t tg ⟨l1,l2⟩ od[k]:=fun k B E=>AaN fun j l ej ev ef=>by
     have a0:od[i]≠l.b:=fun e2=>by
      obtain⟨j0,_,j2⟩:=Gf ej
      obtain⟨_,_,j3⟩:=Gf ev
      obtain⟨jl,a3⟩:=AR.1 j2
      obtain⟨jv,a5⟩:=AR.1 j3
      have hm:=hO.pre i F j.toNat jl jv a5 (by rw [a3];exact e2.symm)
      rw [a3,ef]at hm
      refine U k B ?_
      obtain⟨z,z1,z2⟩:=By.1 hm
      exact By.2 ⟨z,by omega,z2⟩
     exact⟨Jb I.1 a0,Jb I.1 a0⟩
    refine sG v hg hv hl hT W ht Y G hO hn i p _ _ (by omega) (by omega) (by simpa using h1) (by simpa using h2) (fun k B E=>⟨(Jb I.1 (H k B E)).trans (hd k B (by omega)).1,(Jb I.1 (H k B E)).trans (hd k B (by omega)).2⟩) (fun k B E=>?_) x e
    by_cases ek:k=i
    ·subst ek
     exact⟨true,s,(J k B (Bj _)).trans a1,UA d1,fun _=>⟨UA d2,hts⟩,fun h=>(by cases h)⟩
    ·obtain⟨q2,s2,f⟩:=hf k B (by omega)
     have O:=a4 k B (by omega)
     exact⟨q2,s2,(J k B (by omega)).trans f.node,(Jb I.1 O).trans f.bnd,fun h=>⟨(Jb I.1 O).trans (f.yes h).1,(f.yes h).2⟩,fun h=>(Jb I.1 O).trans (f.no h)⟩
structure mX(n:Nat)(b:AV)(c:BG)(br:List Int)(t:BW)(tg:List Af)(x:CY):Prop where
 blk:Dd b
 nds:Vw b x
 code:∃od,MZ n b c br t tg=some (od,0)
 fix:∀u,0<=u->u<DF b->∃q s,VX n b c (VJ b br) t tg x u q s
theorem AaU{n:Nat}{b:AV}{c:BG}{br:List Int}{t:BW}{tg:List Af}(hb:Qz b)(hc:c.d.size<=1048576)(O:br.length<=1048576)(ht:t.c.length<=1048576)(G:tg.length<=1048576)(I:1048577<=n){x:CY}(e:XZ n b c br t tg=some (x,0)):mX n b c br t tg x:=by
 rw [XZ]at e
 rcases NRr (c:=c) (t:=t) (tg:=tg) hb hc O ht G I with ⟨w,od,h⟩|⟨k,h⟩
 ·have v:=h.blk
  have vd:=v.design
  have hl:=EJ vd.short vd.few.1 vd.few.2.2
  have hL:=IJ v
  have H:DF b=((2*(pls b.b).length:Nat):Int):=by unfold DF;omega
  have hw:NS n b ⟨b,w.d,w.b,w.g,w.f,w.h⟩:=⟨rfl,h.vw.places,h.vw.links,h.vw.extras,h.vw.data⟩
  have a0:=h.odl
  have z1:∀x:Int,0<=x∧x<DF b->AU (List.replicate (2*(pls b.b).length) false) x=some false∧AU (List.replicate (2*(pls b.b).length) (Ax.mk 0 0)) x=some zS:=fun x hx=>by
   obtain⟨N,rfl⟩:=Ap hx.1
   have hN:N<2*(pls b.b).length:=by omega
   rw [HM,HM]
   constructor
   ·simp [hN]
   ·simp [hN,zS]
  have B:∀x∈od,0<=x∧x<DF b:=fun x hx=>by rw [H];exact h.rng x hx
  have wl:wrap .i64 ((od.length:Int)-1)=(od.length:Int)-1:=BV (by omega) (by omega)
  have Z:=zD (g:=⟨⟨b,w.d,w.b,w.g,w.f,w.h⟩,VJ b br⟩) (c:=c) (t:=t) (tg:=tg) (od:=od) v hw (Gu _ _ _) G h.tgs h.tim.reached h.tim.slew B (by omega) h.top.nodup I od.length n n (List.replicate (2*(pls b.b).length) false) (List.replicate (2*(pls b.b).length) (Ax.mk 0 0)) (Bj _) (by omega) (by omega) (by rw [H];simp) (by rw [H];simp) (fun k F _=>z1 _ (B _ (AQ F)))
  have U:=sG (g:=⟨⟨b,w.d,w.b,w.g,w.f,w.h⟩,VJ b br⟩) (c:=c) (t:=t) (tg:=tg) (od:=od) v hw (Gu _ _ _) G h.tgs h.tim.reached h.tim.slew B (by omega) h.top I od.length n (List.replicate (2*(pls b.b).length) false) (List.replicate (2*(pls b.b).length) (Ax.mk 0 0)) (Bj _) (by omega) (by rw [H];simp) (by rw [H];simp) (fun k F _=>z1 _ (B _ (AQ F))) (fun k F a1=>absurd F (by omega)) x
  simp only [h.code,BQ,Cj,cF,Sp v I,pH (n:=n) (L:=HV b) (br:=br) (by omega) O I,Py v I]at e
  rw [H,Gc (by omega) (by omega),BQ,Gc (by omega) (by omega),BQ,wl]at e
  have W:∀u,0<=u->u<DF b->∃q s,VX n b c (VJ b br) t tg x u q s:=fun u h0 h1=>by
   obtain⟨k,F,rfl⟩:=DB (qN h.top.nodup (N:=2*(pls b.b).length) h.rng h.full h0 (by omega))
   exact U e k F
  have len:(x.c.length:Int)=DF b∧(x.b.length:Int)=DF b:=by
   rcases Z with ⟨x',x1,x2,Y,_⟩|⟨Y,_⟩
   ·have:=Y.symm.trans e
    cases this;exact⟨x1,x2⟩
   ·have:=Y.symm.trans e
    cases this
  refine⟨v,⟨len.1,len.2,fun i hi J=>?_⟩,⟨od,h.code⟩,W⟩
  obtain⟨q,s,f⟩:=W (i:Int) (by omega) (by omega)
  have f1:=f.bnd
  rw [Ar hi]at f1
  cases f1
  cases hq:x.c[i]with
  |true=>
   obtain⟨E,f3⟩:=f.yes hq
   rw [Ar J]at E
   have E:=Ai E
   rw [E];unfold Vb;rw [f3];rfl
  |false=>
   have E:=f.no hq
   rw [Ar J]at E
   have E:=Ai E
   rw [E];decide
 ·rw [h.spec,BQ,h.bad,cT]at e
  have:=h.bad
  cases e
  cases this
theorem NnF{n:Nat}{b:AV}{c:BG}{br:List Int}{t:BW}{tg:List Af}{x:CY}{node:Int}{q:Bool}{s:Af}(J:Qz b)(hc:c.d.size<=1048576)(G:br.length<=1048576)(ht:t.c.length<=1048576)(hx:x.c.length<=1048576)(E:tg.length<=1048576)(H:1048577<=n)(F:mX n b c br t tg x)(h0:0<=node∧node<DF b)(W:VX n b c (VJ b br) t tg x node q s):
 eN n b c br t tg x node=some (q,(cond q s (Af.mk 0 ((Ax.mk 0 0)))),0):=by
 rw [eN]
 rcases NGr (c:=c) (x:=x) (t:=t) (tg:=tg) J hc G ht hx E H with ⟨w,od,h⟩|⟨k,h⟩
 ·have v:=h.blk
  have I:=v.design
  have hl:=EJ I.short I.few.1 I.few.2.2
  have wN:wrap .i64 (DF b-1)=DF b-1:=BV (by unfold DF;omega) (by unfold DF;omega)
  have U:NS n b ⟨b,w.d,w.b,w.g,w.f,w.h⟩:=⟨rfl,h.vw.places,h.vw.links,h.vw.extras,h.vw.data⟩
  have i5:=Wp (n:=n) (r:=⟨b,w.d,w.b,w.g,w.f,w.h⟩) v U.places
  have d:(decide (node>=0)&&decide (node<=DF b-1))=true:=by simp;omega
  obtain⟨q',s',a1,a2⟩:=oQ (n:=n) (g:=⟨⟨b,w.d,w.b,w.g,w.f,w.h⟩,VJ b br⟩) (c:=c) (x:=x) (node:=node) v U (Gu _ _ _) E h.tgs h.tim.reached h.tim.slew h.nds.bound h.nds.req h0 H
  have e:=a1.symm.trans W.node
  cases e
  have ez:II (cond q s (Af.mk 0 ((Ax.mk 0 0)))).b=true:=by
   cases q with
   |true=>exact(W.yes rfl).2
   |false=>show II (Ax.mk 0 0)=true;decide
  simp only [h.graph,BQ,cF,Cj,Tb,Yq,i5,Nv,wN,d,Ac,a2,xK,ez]
 ·obtain⟨od,B⟩:=F.code
  have v:=F.blk
  have Z:=h.bad
  rcases h.spec with ⟨e,rfl⟩|⟨_,_,⟨g1,rfl⟩|⟨_,O⟩⟩
  ·obtain⟨z,Y,hz⟩:=gF (n:=n) J H
   rw [e]at Y;cases Y
   have:=hz.2 v;cases this
  ·exact absurd F.nds g1
  ·rw [B]at O;cases O;cases Z
theorem AcS{n:Nat}{a:List Ax}(h:a.length<=1048576)(E:1048577<=n):bY n a a=some true:=by
 rw [bY,Cj,cF]
 refine IC (L:=fun m i (_:Unit)=>NA a a (fun _=>some true) m i) a.length (fun _ _=>True) (fun o=>o=some true) ?_ ?_ n 0 () (by omega) (by omega) trivial
 ·intro m i _ hi _ B
  simp only [NA.eq_2,FL hi,cT,Ar hi,BQ,beq_self_eq_true,Bool.and_self,Ac,cF,wT i]
  exact B () trivial
 ·intro m _ _
  simp only [NA.eq_2,Fh,cF]
theorem gD{B:List Int}(hR:B.length<=9223372036854775807∧∀x∈B,sP .u8 x):∃n O,gQ n O B (fun r=>cond r (some ()) none)=some ():=by
 obtain⟨n,E⟩:∃n,1048577<=n:=⟨_,Bj _⟩
 obtain⟨O⟩:=RE.is
 refine⟨n,O,?_⟩
 rw [gQ,kD,BQ]
 refine Iz (fun _=>rfl) fun a0=>?_
 have hc:=OZ.of hR (FI a0)
 rw [kA]
 refine Qw (Fr hc E) fun s hs=>D13 E hc (hs.mk2 rfl) fun b co br ss t tg s' I ht a4 a3=>?_
 dsimp only
 have G:br.length<=1048576:=by have:=I.few;omega
 have H:t.c.length<=1048576:=by have:=ht.r;omega
 have F:tg.length<=1048576:=by omega
 have sm:=I.blk.sm
 obtain⟨x,k,hx,e1,e2⟩:=PrE (n:=n) (c:=co) (br:=br) (t:=t) (tg:=tg) sm I.cor G H F E
 simp only [e1,e2,AcS hx.2 E,BQ,Cj,Bool.or_self,cF,Ac]
 refine Iz (fun _=>rfl) fun q=>?_
 obtain rfl:k=0:=by simpa using q
 have W:=AaU sm I.cor G H F E e1
 have v:=W.blk
 have vd:=v.design
 have hl:=EJ vd.short vd.few.1 vd.few.2.2
 have wc:DF b=((2*(pls b.b).length:Nat):Int):=by unfold DF;omega
 have e4:cQ n b x=some true:=by
  rw [cQ]
  obtain⟨z,J,Z⟩:=Bk2 (n:=n) sm E
  obtain rfl:z=true:=Z.2 v
  obtain⟨U,ew,a2⟩:=Vw4 (n:=n) v E
  obtain⟨z2,f2,Y⟩:=Ns2 (n:=n) (r:=⟨b,U.d,U.b,U.g,U.f,U.h⟩) v a2.places hx.1 E
  obtain rfl:z2=true:=Y.2 W.nds
  rw [J,BQ,cT,ew,BQ,f2,BQ]
 have e5:bS n b=some (DF b):=by
  rw [bS]
  obtain⟨z,J,Z⟩:=gF (n:=n) sm E
  obtain rfl:z=true:=Z.2 v
  rw [J,BQ,Ac,cF,Py v E,BQ]
 simp only [e4,BQ,Ac,cF]
 refine IC (L:=fun m i (_:Unit)=>NV n _ (b,co,br,t,tg) (x,0) _ m i) (2*(pls b.b).length) (fun _ _=>True) (fun o=>o=some ()) ?_ ?_ n 0 () (by omega) (by omega) trivial
 ·intro m i _ hi _ ih
  obtain⟨q,s,f⟩:=W.fix (i:Int) (by omega) (by omega)
  have hN:=NnF (node:=(i:Int)) sm I.cor G H hx.1 F E W ⟨by omega,by omega⟩ f
  have a1:q=true->s.c=(i:Int):=fun h=>NmN (q,s) f.node h
  simp only [NV.eq_2,e5,BQ,Aw (show(i:Int)<DF b by omega),cT,hN,Cj,cF,f.bnd,wT i]
  cases q with
  |false=>simp only [cF,Cj,BQ];exact ih () trivial
  |true=>
   obtain⟨J,_⟩:=f.yes rfl
   simp only [cT,cF,Cj,BQ,a1 rfl,J,beq_self_eq_true,Bool.and_self,Ac]
   exact ih () trivial
 ·intro m _ _
  simp only [NV.eq_2,e5,BQ,Av (show¬(((2*(pls b.b).length:Nat):Int)<DF b) by omega),cF]
  rfl

end Go.Proofs.YtpnjglnpdmgghaaGreatDoor
