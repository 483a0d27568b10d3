/- The walks: every function that FnNeedsFixed reaches computes the plain function that is typed beside it; no condition. -/
import Derived.Test.YtpnjglnpdmgghaaGreatDoorWalkFnNeedsFixedB0
import Derived.Test.YtpnjglnpdmgghaaGreatDoorWalkFnNeedsFixedL0
import Derived.Test.YtpnjglnpdmgghaaGreatDoorWalkFnNeedsFixedS1
import Derived.Test.YtpnjglnpdmgghaaGreatDoorWalkFnNeedsFixedI1
set_option linter.all false
set_option maxRecDepth 20000
set_option maxHeartbeats 40000000
namespace Go.Proofs.YtpnjglnpdmgghaaGreatDoor
open Go Go.RowKit Go.Eng Go.Proofs.Tryz
open Go.IntKind (wrap)
variable {n H:Nat} {w:World}
def NV(n:Nat)(g_:Bool->Option Unit)(r9:AV×BG×(List Int)×BW×(List Af))(r114:CY×Int)(k0:Int->Option Unit):Nat->Int->Option Unit
 |0,_=>none
 |m+1,a=>(bS n r9.1).bind fun e=>cond (decide (a<e)) ((eN n r9.1 r9.2.1 r9.2.2.1 r9.2.2.2.1 r9.2.2.2.2 r114.1 a).bind fun b=>(cond (b.2.2 !=0) (some true) ((AU r114.1.c a).bind fun f=>some ((b.1 !=f)))).bind fun g=>(cond g (some true) ((cond b.1 ((cond (b.2.1.c !=a) (some true) ((AU r114.1.b a).bind fun d=>some ((!((b.2.1.b.b==d.b)&&(b.2.1.b.c==d.c)))))).bind fun c=>some c) (some false)).bind fun c=>some c)).bind fun c=>cond c (g_ false) (NV n g_ r9 r114 k0 m (wrap .i64 (a+1)))) (k0 a)
def gQ(n:Nat)(O_:RE)(a0:List Int)(g_:Bool->Option Unit):Option Unit:=(kD n a0).bind fun h=>cond h (g_ true) (kA n O_ a0 fun b=>(dT n b.1 b.2.1 b.2.2.1 b.2.2.2.1 b.2.2.2.2).bind fun a=>(XZ n b.1 b.2.1 b.2.2.1 b.2.2.2.1 b.2.2.2.2).bind fun c=>(cond (((a.2 !=c.2))||((((a.1.c.length:Int)) !=((c.1.c.length:Int))))) (some true) ((bY n a.1.b c.1.b).bind fun e=>some (!e))).bind fun d=>cond d (g_ false) (cond (a.2 !=0) (g_ true) ((cQ n b.1 a.1).bind fun f=>cond (!f) (g_ false) (NV n g_ b a (fun g=>g_ true) n 0))))
theorem AgD{O_:RE}{B:List Int}{g_:Bool->Option Unit}{E:Value}(h:gQ n O_ B g_=some ())(hH:H<=w.heap.size)(k0:BD (CR .u8) w H B E):
 Calls prog 3 [E].toArray w (Gh fun E F=>∃B:Bool,E= .bool B∧Bl w F∧g_ B=some ()):=by
 have B:=AF w;unfold gQ at h;refine AI func3 z ntmps3 (Rc 9 (Cs h B AdH (fun _ r=>(AbM r (by omega) (k0.oj B):)) ?_));rintro _ h _ _ ⟨E,_⟩;refine Ro 2 (Wc z h ?_ ?_)
 ·intro h;exact Rc 7 (Ne z z ⟨_,z,true,z,E,h⟩)
 ·intro h;refine Rc 5 (Ef z (Ga z AaK (AeX h (by omega) (k0.oj E):)) ?_);rintro _ _ ⟨O,_,_,_,_,_,U,_,_,_,W,rfl,a,b,c,d,e,B,f,g,i,j,_,_,_,_,_,_,_,_,_,_,_,_,_,_,_,_,_,_,_,_,_,_,_,_,_,_,_,_,F,h⟩;have⟨G,_⟩:=Et E F;have u:=AE a;have v:=AE b;have x:=AE c;have y:=AE d;have A:=AE B;have E:=AE f;have C:=AE g;have D:=AE j;refine Ro 6 (Ef z (Aj z OW) ?_);rintro _ _ ⟨Y,rfl,_,_,P,k⟩;have⟨F,_⟩:=Et G P;have⟨e,i,a,b,c,d,B,f⟩:=EA e i a b c d B f P;have⟨g,j⟩:=Dc g j P;refine Ef z (Aj z Nk) ?_;rintro _ _ ⟨Z,rfl,_,_,Q,l⟩;have⟨G,_⟩:=Et F Q;have⟨k,e,i,a,b,c,d,B⟩:=EA k e i a b c d B Q;have⟨f,g,j⟩:=Ez f g j Q;refine Ef z (Aj z KZ) ?_;rintro _ _ ⟨A0,rfl,_,_,R,p⟩;have⟨F,_⟩:=Et G R;have⟨k,l,e,i,a,b,c,d⟩:=EA k l e i a b c d R;have⟨B,f,g,j⟩:=EV B f g j R;refine Ef z (Di z k CS (AB (AO (AM a nr nr)) (AB (AO (AM b nr nr)) (AB c.one (AB d.one (AB (AO e) BX))))) z) ?_;rintro _ _ ⟨S,k⟩;have⟨G,_⟩:=Eu F S;have⟨l,p,e,i,a,b,c,d⟩:=Hq l p e i (Au a u) (Au b v) (Au c x) (Au d y) S;have⟨B,f,g,j⟩:=IP (Au B A) (Au f E) (Au g C) (Au j D) S;refine Ef z (Di z l Dj z z) ?_;rintro _ _ ⟨T,l⟩;have⟨I,_⟩:=Eu G T;have⟨k,p,e,i,a,b,c,d⟩:=Hq k p e i (Au a u) (Au b v) (Au c x) (Au d y) T;have⟨B,f,g,j⟩:=IP (Au B A) (Au f E) (Au g C) (Au j D) T;refine Ro 1 (Ef z (Di z p EG (AB f.one (AB g.one (AB (AO i) BX))) z) ?_);rintro _ _ ⟨F,p⟩;have⟨G,_⟩:=Eu I F;have⟨k,l,e,i,a,b,c,d⟩:=Hq k l e i (Au a u) (Au b v) (Au c x) (Au d y) F;have⟨B,f,g,j⟩:=IP (Au B A) (Au f E) (Au g C) (Au j D) F;refine Ro 5 (Yl z (Cw z Cq k CS) (Yl z (Cw z Eb l Dj) (Ro 1 (Yl z (Cw z GA p EG) (Ro 1 ?_)))));refine Cg h AaC (fun _ r=>(AfX r nr (AM a nz nr) (AM b nz nr) (AD c nz nr) (AD d nz nr) (e.wide nz) (AD B nz nr) (AD f nz nr) (AD g nz nr) (i.wide nz) (AD j nz nr):)) ?_;rintro n0 h _ _ ⟨_,_,rfl,m,o,_,V⟩;have⟨J,_⟩:=Et G V;have⟨k,l,p,e,i,a,b,c⟩:=EA k l p e i a b c V;have⟨d,B,f,g,j⟩:=JP d B f g j V;have I:=AE m;have X:=AE o;refine Ro 3 (Ef z (Aj z KD) ?_);rintro _ _ ⟨B0,rfl,_,_,F,q⟩;have⟨G,_⟩:=Et J F;have⟨k,l,p,e,i,a,b,c⟩:=EA k l p e i a b c F;have⟨d,B,f,g,j,m,o⟩:=Jk d B f g j m o F;refine Ef z (Di z q GV (AB m.one (AB o.one BX)) z) ?_;rintro _ _ ⟨F,q⟩;have⟨J,_⟩:=Eu G F;have⟨k,l,p,e,i,a,b,c⟩:=Hq k l p e i (Au a u) (Au b v) (Au c x) F;have⟨d,B,f,g,j,m,o⟩:=SE (Au d y) (Au B A) (Au f E) (Au g C) (Au j D) (Au m I) (Au o X) F;refine Ro 5 (Yl z (Cw z Cq k CS) (Yl z (Cw z Eb l Dj) (Ro 1 (Yl z (Cw z GA p EG) (Ro 1 ?_)))));refine Cg h AbX (fun _ r=>(AfY r nr (AM a nz nr) (AM b nz nr) (AD c nz nr) (AD d nz nr) (e.wide nz) (AD B nz nr) (AD f nz nr) (AD g nz nr) (i.wide nz) (AD j nz nr):)) ?_;rintro C0 h _ _ ⟨_,_,rfl,s,t,_,F⟩;have⟨D0,_⟩:=Et J F;have⟨k,l,p,q,e,i,a,b⟩:=EA k l p q e i a b F;have⟨c,d,B,f,g,j,m,o⟩:=EA c d B f g j m o F;have E0:=AE s;have F0:=AE t;refine Ro 3 (Ef z (Aj z KD) ?_);rintro _ _ ⟨_,rfl,_,_,F,G⟩;have⟨G0,_⟩:=Et D0 F;have⟨k,l,p,q,e,i,a,b⟩:=EA k l p q e i a b F;have⟨c,d,B,f,g,j,m,o⟩:=EA c d B f g j m o F;have⟨s,t⟩:=Dc s t F;refine Ef z (Di z G GV (AB s.one (AB t.one BX)) z) ?_;rintro _ _ ⟨F,G⟩;have⟨J,_⟩:=Eu G0 F;have⟨k,l,p,q,e,i,a,b⟩:=Hq k l p q e i (Au a u) (Au b v) F;have⟨c,d,B,f,g,j,m,o⟩:=Hq (Au c x) (Au d y) (Au B A) (Au f E) (Au g C) (Au j D) (Au m I) (Au o X) F;have⟨s,t⟩:=Ni (Au s E0) (Au t F0) F;refine Ro 10 (Te 8 [3,4,5,6,7,8,9,10] 55 47 ((((n0.1.c.length:Int)) !=((C0.1.c.length:Int)))) z ?_ ?_)
  ·exact Fl KJ Hb q (Yl z (Ip z FX m) (Fl KJ Hb G (Yl z (Ip z FX s) (Ro 2 (Gm)))))
  refine Ro 1 (PE 7 [3,4,5,6,7,8,9] 63 56 h ?_ ?_)
  ·intro F h;refine Fl IZ Fz q (Fl IZ Fz G ?_);refine Cs h J AfM (fun _ r=>(AcL r nr (AD o nz nr) (AD t nz nr):)) ?_;rintro _ h _ E ⟨_,_⟩;have⟨k,l,p,q,e,i,a,b⟩:=EA k l p q e i a b E;have⟨c,d,B,f,g,j,m,o⟩:=EA c d B f g j m o E;cases CV h;exact Ro 1 (Ro 1 (HR E))
  intro F h;intro E E;have⟨F,_⟩:=Et J E;have⟨k,l,p,q,e,i,a,b⟩:=EA k l p q e i a b E;have⟨c,d,B,f,g,j,m,o⟩:=EA c d B f g j m o E;refine Ro 2 (Wc z h ?_ ?_)
  ·intro h;exact Rc 7 (Ne z z ⟨_,z,false,z,F,h⟩)
  ·intro h;refine Rc 9 (Wc z h ?_ ?_)
   ·intro h;exact Rc 7 (Ne z z ⟨_,z,true,z,F,h⟩)
   ·intro h;refine Rc 5 (Yl z (Cw z Cq k CS) (Yl z (Cw z JI q GV) ?_));refine Cs h F AeV (fun _ r=>(zO r nr (AM a nz nr) (AM b nz nr) (AD c nz nr) (AD d nz nr) (e.wide nz) (AD m nz nr) (AD o nz nr):)) ?_;rintro _ h J E ⟨G,_⟩;have⟨k,l,p,q,e,i,a,b⟩:=EA k l p q e i a b E;have⟨c,d,B,f,g,j,m,o⟩:=EA c d B f g j m o E;refine Ro 3 (Wc z h ?_ ?_)
    ·intro h;exact Rc 7 (Ne z z ⟨_,z,false,z,G,h⟩)
    ·intro h;refine Rc 9 (AL (fun E K wl=>∃F:Int,Kn 118 [(3,.p Y),(4,.p Z),(5,U),(6,.p A0),(7,W),(8,.p B0),(12,.i F)] K∧Bl J wl∧NV n g_ O n0 (fun F=>(g_ true)) E F=some ()) n ?_ ?_)
     ·intro K hK;exact⟨0,hK.sub z,AF _,h⟩
     ·rintro E K _ ⟨F,hK,L,h⟩;refine En hK ?_;rcases E with _|E;exact Ek h;rw [NV.eq_2]at h;have⟨J,_⟩:=Et G L;have⟨q,k,l,p,e,i,a,b⟩:=EA q k l p e i a b L;have⟨c,d,B,f,g,j,m,o⟩:=EA c d B f g j m o L;refine Rc 4 (Yl z (Cw z Cq k CS) ?_);refine Cs h J vQ (fun _ r=>(AfO r nr (AM a nz nr) (AM b nz nr) (AD c nz nr) (AD d nz nr) (e.wide nz):)) ?_;rintro _ h _ G ⟨J,_⟩;have⟨q,k,l,p,e,i,a,b⟩:=EA q k l p e i a b G;have⟨c,d,B,f,g,j,m,o⟩:=EA c d B f g j m o G;refine Ro 3 (Wc z h ?_ ?_)
      ·intro h;refine Rc 6 (Yl z (Cw z Cq k CS) (Yl z (Cw z Eb l Dj) (Ro 1 (Yl z (Cw z GA p EG) (Ro 1 (Yl z (Cw z JI q GV) (Ro 1 ?_)))))));refine Cg h wC (fun _ r=>(AeY r nr (AM a nz nr) (AM b nz nr) (AD c nz nr) (AD d nz nr) (e.wide nz) (AD B nz nr) (AD f nz nr) (AD g nz nr) (i.wide nz) (AD j nz nr) (AD m nz nr) (AD o nz nr):)) ?_;rintro M h _ _ ⟨rfl,B⟩;have⟨⟨U,_⟩,q,m,o⟩:=EV J q m o B;refine Ro 4 (Ef z (Aj z IL) ?_);rintro _ _ ⟨_,rfl,_,_,O,N⟩;have⟨⟨W,_⟩,q,m,o⟩:=EV U q m o O;refine Ro 1 (Ef z (Di z N Ee z z) ?_);rintro _ _ ⟨U,N⟩;have⟨⟨Y,_⟩,q,m,o⟩:=IP W q (Au m I) (Au o X) U;refine Ro 4 (EM Tryz.hm (Qr 3 (MK 8 [3,4,5,6,7,8,12,13,14] 98 90 h ?_ ?_)))
       ·intro I h;refine Qr 1 (Fq KJ Hb q (Qr 1 (Ys h m FX Fv GZ ?_)));rintro _ h _;refine Qy z (Us z zG z z) ?_;cases CV h;exact Qr 1 Ks
       intro I h;refine Qr 1 (MK 18 [3,4,5,6,7,8,12] 117 99 h ?_ ?_)
       ·intro I h;refine Qr 2 (Ky 15 [3,4,5,6,7,8,12,99,100,101] 116 101 h ?_ ?_)
        ·intro W h;refine Fq IX Aq N (Qr 3 (MK 9 [3,4,5,6,7,8,12,99,100,101,102,103,104,105,106] 115 106 h ?_ ?_))
         ·intro Z h;refine Qy z (DJ z HQ) (Qy z (GD (us:=[.i M.2.1.b.b,.i M.2.1.b.c]) z EL (Bk (CL N) 1 2:BK _ _ _ [.i M.2.1.b.b,.i M.2.1.b.c]) CF) (Fq IZ Fz q (Qr 1 (pQ h o HT CF ?_))));rintro s0 _ h _ ⟨_,_,rfl,_,A0,B0⟩;obtain rfl:=Cr A0;refine Qy z (GD (us:=[.i s0.b,.i s0.c]) z EL B0 CF) (Qy z (pT z z z Sx (Sv _ _) z) ?_);cases CV h;exact Qr 1 Ks
         intro Z h;cases CV h;exact Qr 1 Ks
        intro W h;cases CV h;exact Qr 1 Ks
       intro I h;refine CQ fun I I=>?_;have⟨l1,_⟩:=Et Y I;refine Re 1 (Wc z h ?_ ?_)
       ·intro h;exact Rc 11 (Ne z z ⟨_,z,false,z,l1,h⟩)
       ·intro h;refine Rc 9 ?_;intro K hK;exact⟨E,nr,(wrap .i64 (F+1)),hK.sub z,(AC (Eu (AC (AC (AC L G) B) O) U).1 I),h⟩
      ·intro h;exact Rc 11 (Ne z z ⟨_,z,true,z,J,h⟩)
end Go.Proofs.YtpnjglnpdmgghaaGreatDoor
