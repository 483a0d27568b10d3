/- The walks: every function that FnExactCheckTargets reaches computes the plain function that is typed beside it; no condition. -/
import Derived.Test.YtjpcjanfamdmiaaGreatDoorWalkFnExactCheckTargetsB0
set_option linter.all false
set_option maxRecDepth 20000
set_option maxHeartbeats 40000000
namespace Go.Proofs.YtjpcjanfamdmiaaGreatDoor
open Go Go.RowKit Go.Eng Go.Proofs.Tryz
open Go.IntKind (wrap)
variable {n H:Nat} {w:World}
def LK(i31:Int)(x35:AO)(k2:(List Ay)->Int->Option (List Ay)):Nat->(List Ay)->Int->Option (List Ay)
 |0,_,_=>none
 |m+1,b,a=>cond (decide (a<(x35.Nets.length:Int))) ((AE x35.Nets a).bind fun d=>(Dj b ([(Ay.mk i31 a d ((a==(wrap .i64 (((x35.Nets.length:Int))-1)))))]) 32).bind fun c=>LK i31 x35 k2 m c (wrap .i64 (a+1))) (k2 b a)
def Jh(a0:AP)(k4:(List Ay)->Int->Option (List Ay)):Nat->(List Ay)->Int->Option (List Ay)
 |0,_,_=>none
 |m+1,b,a=>cond (decide (a<(a0.Ports.length:Int))) ((AE a0.Ports a).bind fun e=>(AE a0.Ports a).bind fun c=>(Dj b ([(Ay.mk (-1) a e.Net ((c.Dir==1)))]) 32).bind fun d=>Jh a0 k4 m d (wrap .i64 (a+1))) (k4 b a)
def Jb(n:Nat)(a0:AP)(k0:(List Ay)->Int->Option (List Ay)):Nat->(List Ay)->Int->Option (List Ay)
 |0,_,_=>none
 |m+1,b,a=>cond (decide (a<(a0.Instances.length:Int))) ((AE a0.Instances a).bind fun d=>LK a d (fun c e=>Jb n a0 k0 m c (wrap .i64 (a+1))) n b 0) (k0 b a)
def kY(n:Nat)(a0:AP):Option (List Ay):=Jb n a0 (fun a d=>Jh a0 (fun b c=>some b) n a 0) n (([]:List Ay)) 0
theorem W_6{l:AP}{r:List Ay}{s t u:Value}(a:kY n l=some r)(hH:H<=w.heap.size)(V:AR C_Instance w H l.Instances s)(b1:AR At w H l.Nets t)(M:AR C_Port w H l.Ports u):
 Calls prog 58 [.agg #[s,t,u]].toArray w (DA fun r0 W=>∃X,r0=X∧AB C_l05Place W w.heap.size (Iv 0 0) 187 r X∧AJ w W):=by
 unfold kY at a;refine AA func58 z ntmps58 (Rc 2 (Ef z (AF z z) ?_));rintro _ c1 ⟨d,rfl,d1,e1,Y,N⟩;have f1:=Y.size;refine Ro 5 (Ef z (BM C_l05Place (([]:List Ay)) [] z Ik Nm z z trivial) ?_);rintro s0 t0 ⟨m,Z,g1,h1,a0,u0⟩;have⟨v0,i1⟩:=Et Y a0;have N:=N.ext a0;have b0:=BT Z;clear Z;have⟨w0,x0,a⟩:=La a;refine Ro 10 (WC.loopD (fun v c wl=>∃(x:List Ay) (k:Value) (h:Int),Kn 69 [(1,.p d),(3,k),(4,.i h)] c∧AJ w wl∧t0.heap.size<=wl.heap.size∧BK wl d [s,t,u] 50∧AB C_l05Place wl (m) (Iv 0 0) 187 x k∧Bd k m wl.heap.size∧Nb k d∧Jb n l w0 v x h=some r) n ?_ ?_)
 ·intro c hK;exact⟨(([]:List Ay)),s0,0,hK.sub z,v0,nr,N,u0,(fun e hg=>by have:=b0 e hg;omega),(Nb.of b0),a⟩
 ·rintro v c c0 ⟨x,k,h,hK,F,j1,G,d0,e0,f0,a⟩;refine By hK ?_;rcases v with _|v;exact Bx a;rw [Jb.eq_2]at a;refine Rc 4 (Dq Bq DP G DV (V.oj F) (Ro 3 (Wc z a ?_ ?_)))
  ·intro a;refine Rc 6 (Fl Bq DP G (Ro 1 (Ix a (V.oj F) DV Ba ?_)));rintro y k1 a _ ⟨l1,m1,n1,rfl,o1,y0,z0⟩;obtain⟨g0,rfl,A0⟩:=As y0;refine Fc Cf Ad z0 (Ro 9 ?_);have⟨B0,C0,a⟩:=La a;refine WC.loopD (fun A c wl=>∃(I:List Ay) (o:Value) (f:Int),Kn 69 [(1,.p d),(3,o),(4,.i h),(5,g0),(6,.i f)] c∧AJ w wl∧c0.heap.size<=wl.heap.size∧BK wl d [s,t,u] 50∧AD (AL .i64) wl (Iv 0 H) y.Nets g0∧AB C_l05Place wl (m) (Iv 0 0) 187 I o∧Bd o m wl.heap.size∧Nb o d∧LK h y B0 A I f=some r) n ?_ ?_
   ·intro c hK;exact⟨x,k,0,hK.sub z,F,nr,G,A0,d0,(fun e hg=>by have:=e0 e hg;omega),f0,a⟩
   ·rintro A c p1 ⟨I,o,f,hK,h0,q1,p,i,J,K,O,a⟩;refine By hK ?_;rcases A with _|A;exact Bx a;rw [LK.eq_2]at a;refine Rc 5 (Yl z (Bs z Af i) (Ro 3 (Wc z a ?_ ?_)))
    ·intro a;refine Rc 10 (Il a i Af Ap AI ?_);rintro P a _;refine Ro 2 (Yl z (Bs z Af i) (Ro 2 (Yl z (CD [.i h,.i f,.i P,.bool ((f==(wrap .i64 (((y.Nets.length:Int))-1))))] z z XQ Xz z) (Ef z (BM C_l05Place ([(Ay.mk h f P ((f==(wrap .i64 (((y.Nets.length:Int))-1)))))]) [[.i h,.i f,.i P,.bool ((f==(wrap .i64 (((y.Nets.length:Int))-1))))]] z Ik Nm z z ⟨Kl,trivial⟩) ?_))));rintro r1 s1 ⟨t1,i0,u1,v1,j0,D0⟩;have⟨E0,w1⟩:=Et h0 j0;have⟨p,i,J⟩:=FS p i J j0;have x1:=BT i0;clear i0;have⟨F0,G0,a⟩:=AH a;refine Ef z (BB (c:=C_l05Place) z Ik Nm z z z z z J (by omega) (AB.slf D0 nr nr) G0) ?_;rintro H0 y1 ⟨k0,B⟩;have⟨I0,z1⟩:=Ge E0 B K;have J0:Nb _ d:=Gb B O;have p:=BN.box B p O;have i:=BN.slr B i (Ns.of K);have K0:=MX B k0 K;refine Ro 10 ?_;intro c hK;exact⟨A,nr,F0,H0,(wrap .i64 (f+1)),hK.sub z,I0,(by omega),p,i,k0,(fun e hg=>by have:=K0 e hg;omega),J0,a⟩
    ·intro a;refine Rc 3 ?_
     subst C0
     refine Re 9 ?_;intro c hK;exact⟨v,nr,I,o,(wrap .i64 (h+1)),hK.sub z,h0,(by omega),p,J,(fun e hg=>by have:=K e hg;omega),O,a⟩
  ·intro a;refine Rc 3 ?_
   subst x0
   refine Re 9 ?_;refine WC.loopD (fun C c wl=>∃(D:List Ay) (E:Value) (j:Int),Kn 69 [(1,.p d),(3,E),(7,.i j)] c∧AJ w wl∧c0.heap.size<=wl.heap.size∧BK wl d [s,t,u] 50∧AB C_l05Place wl (m) (Iv 0 0) 187 D E∧Bd E m wl.heap.size∧Nb E d∧Jh l (fun D j=>(some D)) C D j=some r) n ?_ ?_
   ·intro c hK;exact⟨x,k,0,hK.sub z,F,nr,G,d0,(fun e hg=>by have:=e0 e hg;omega),f0,a⟩
   ·rintro C c A1 ⟨D,E,j,hK,Q,B1,g,q,l0,m0,a⟩;refine By hK ?_;rcases C with _|C;exact Bx a;rw [Jh.eq_2]at a;refine Rc 4 (Dq Cm FE g Ex (M.oj Q) (Ro 3 (Wc z a ?_ ?_)))
    ·intro a;have⟨R,L0,a⟩:=AH a;have⟨S,M0,a⟩:=AH a;have⟨N0,O0,a⟩:=AH a;refine Rc 4 ?_;refine CZ 17 Tryz.hm fun n0 o0 b=>?_;have⟨T,C1⟩:=Et Q o0;have⟨g,q⟩:=CB g q o0;refine EP b [0,1] (BO 2 b z (BF z Cm) (BO 3 b z (Di z FE g z) (EP b [4] (GS 5 b z (EJ z Ex CO (M.oj T) L0) ?_))));rintro _ ⟨D1,E1,F1,rfl,G1,P0,Q0⟩;obtain rfl:=Br P0;refine BO 6 b z (BF z ER) (BO 7 b z (FG 2 z AI Q0 z z) (BO 8 b z (BF z Cm) (BO 9 b z (Di z FE g z) (EP b [10] (GS 11 b z (EJ z Ex CO (M.oj T) M0) ?_)))));rintro _ ⟨H1,I1,J1,rfl,K1,R0,S0⟩;obtain rfl:=Br R0;refine BO 12 b z (BF z EE) (BO 13 b z (FG 1 z AI S0 z z) (EP b [14] (BO 15 b z (CD [.i (-1),.i j,.i R.Net,.bool ((S.Dir==1))] z z XQ Xz z) (Ka 16 z (BM C_l05Place ([(Ay.mk (-1) j R.Net ((S.Dir==1)))]) [[.i (-1),.i j,.i R.Net,.bool ((S.Dir==1))]] z Ik Nm z z ⟨Kl,trivial⟩) ?_))));rintro L1 T0 ⟨M1,p0,N1,O1,U,U0⟩;have V0:AJ n0 T0:=AJ.trans (AJ.refl n0) U;have⟨W0,P1⟩:=Et T U;have⟨g,q⟩:=CB g q U;have Q1:=BT p0;clear p0;refine⟨V0,?_⟩;refine KD z (Ef z (BB (c:=C_l05Place) z Ik Nm z z z z z q (by omega) (AB.slf U0 nr nr) O0) ?_);rintro X0 R1 ⟨q0,L⟩;have⟨Y0,S1⟩:=Ge W0 L l0;have Z0:Nb _ d:=Gb L m0;have g:=BN.box L g m0;have a1:=MX L q0 l0;refine Tr 1 (TL.noPan (l:=[]) (Re 8 ?_));intro c hK;exact⟨C,nr,N0,X0,(wrap .i64 (j+1)),hK.sub z,Y0,(by omega),g,q0,(fun e hg=>by have:=a1 e hg;omega),Z0,a⟩
    ·intro a;cases BQ a;exact Rc 12 (Ne z z ⟨_,z,_,z,AB.base q,Q⟩)
def VN(n:Nat)(a0:AQ):Option Int:=(kY n a0.Design).bind fun a=>some (wrap .i64 (2*((a.length:Int))))
theorem sE{a:AQ}{g:Int}{h c d e i:Value}(f:VN n a=some g)(s:H<=w.heap.size)(t:AR C_Cell w H a.Library.Cells h)(k:AR C_Instance w H a.Design.Instances c)(l:AR At w H a.Design.Nets d)(m:AR C_Port w H a.Design.Ports e)(u:AR C_Wire w H a.Wires i):
 Calls prog 25 [.agg #[h,c,d,e,i]].toArray w (Ao (.i g) w):=by
 unfold VN at f;refine AA func25 z ntmps25 (Rc 2 (Ef z (AF z z) ?_));rintro _ v ⟨x,rfl,y,A,b,o⟩;have B:=b.size;refine Ro 5 (Yl z (BF z Bl) (Yl z (CJ (us:=[c,d,e]) z DZ (AM.sub (BK.cells o) 1 3:AM _ _ _ [c,d,e]) DL) ?_));refine Cg f XN (fun _ p=>(W_6 p (by omega) (k.oj b) (l.oj b) (m.oj b):)) ?_;rintro C f D E ⟨_,rfl,j,q⟩;have⟨r,F⟩:=Et b q;have G:=AB.blk j;exact Yl z (Mg z Ik j) (DW f r)
def GV(n:Nat)(a0:Int)(a1:Int)(a2:Int):Option Bool:=some (((decide (a0>=a1))&&(decide (a0<=a2))))
theorem Ly{a b c:Int}{d:Bool}(e:GV n a b c=some d):
 Calls prog 28 [.i a,.i b,.i c].toArray w (Ao (.bool d) w):=by
 have f:=AJ.refl w;unfold GV at e;refine AA func28 z ntmps28 (Rc 11 (kZ 4 [] 14 10 ?_));exact DW e f
def Fm(a0:ByteArray)(k0:Int->Option Bool):Nat->Int->Option Bool
 |0,_=>none
 |m+1,a=>cond (decide (a<(a0.size:Int))) ((PK a0 a).bind fun g=>(cond (decide (g>=97)) ((PK a0 a).bind fun f=>some (decide (f<=122))) (some false)).bind fun e=>(PK a0 a).bind fun b=>(cond (decide (b>=48)) ((PK a0 a).bind fun c=>some (decide (c<=57))) (some false)).bind fun d=>cond ((!e)&&((!((d&&(decide (a>0))))))) (some false) (Fm a0 k0 m (wrap .i64 (a+1)))) (k0 a)
def mL(n:Nat)(a0:ByteArray):Option Bool:=Fm a0 (fun a=>some (((decide ((a0.size:Int)>=1))&&(decide ((a0.size:Int)<=8))))) n 0
theorem yB{b:ByteArray}{h:Bool}(a:mL n b=some h):
 Calls prog 155 [.string b].toArray w (Ao (.bool h) w):=by
 unfold mL at a;have⟨j,k,a⟩:=Ud a;refine AA func155 z ntmps155 (Rc 12 (WC.loopD (fun c f wl=>∃d:Int,Kn 50 [(0,.string b),(3,.i d)] f∧AJ w wl∧Fm b j c d=some h) n ?_ ?_))
 ·intro f e;exact⟨0,e.sub z,AJ.refl _,a⟩
 ·rintro c f q ⟨d,e,g,a⟩;refine By e ?_;rcases c with _|c;exact Bx a;rw [Fm.eq_2]at a;have r:=g.size;refine Rc 5 (Yl z (Ep z Ri z) (Ro 3 (Wc z a ?_ ?_)))
  ·intro a;have⟨s,H,a⟩:=AH a;refine Rc 8 (Yl z (Em z Ri z z H) (Ro 2 (JB 5 [0,3] 21 16 a ?_ ?_)))
   ·intro l a;have⟨t,m,a⟩:=AH a;refine Ro 2 (Yl z (Em z Ri z z m) (Ro 1 ?_));cases BQ a;exact Ro 1 (DI)
   intro l a;have⟨u,o,a⟩:=AH a;refine Ro 7 (Yl z (Em z Ri z z o) (Ro 2 (JB 5 [0,3,4] 31 26 a ?_ ?_)))
   ·intro i a;have⟨v,p,a⟩:=AH a;refine Ro 2 (Yl z (Em z Ri z z p) (Ro 1 ?_));cases BQ a;exact Ro 1 (DI)
   intro i a;refine Ro 8 (Iu 7 [0,3] 41 34 ((!((i&&(decide (d>0)))))) z ?_ ?_)
   ·refine Ro 2 (kZ 3 [0,3,34,35,36] 39 36 ?_);exact Ro 2 (DI)
   refine Ro 2 (Wt a g ?_);intro a;refine Rc 9 ?_;intro f e;exact⟨c,nr,(wrap .i64 (d+1)),e.sub z,g,a⟩
  ·intro a;refine Rc 3 ?_
   subst k
   refine Re 5 (Yl z (Ep z Ri z) (Ro 2 (Iu 4 [] 49 45 (decide ((b.size:Int)<=8)) z ?_ ?_)))
   ·exact Ro 1 (Yl z (Ep z Ri z) (Ro 2 (DI)))
   exact DW a g
def IP(a0:AX)(i18:Int)(x21:BD)(k2:Int->Option (Int×Bool)):Nat->Int->Option (Int×Bool)
 |0,_=>none
 |m+1,a=>cond (decide (a<i18)) ((AE a0.Pins a).bind fun b=>cond (b.Name.toList==x21.Name.toList) (some (0,false)) (IP a0 i18 x21 k2 m (wrap .i64 (a+1)))) (k2 a)
def Jo(n:Nat)(a0:AX)(k0:Int->Int->Option (Int×Bool)):Nat->Int->Int->Option (Int×Bool)
 |0,_,_=>none
 |m+1,c,b=>cond (decide (b<(a0.Pins.length:Int))) ((AE a0.Pins b).bind fun a=>IP a0 b a (fun g=>(mL n a.Name).bind fun f=>(cond (!f) (some true) ((GV n a.Cap 0 500).bind fun d=>some (!d))).bind fun e=>cond e (some (0,false)) (cond (((((b==(wrap .i64 (((a0.Pins.length:Int))-1))))&&((((((a.Dir !=2))||((a.Cap !=0))))||a.Clock))))||(((decide (b<wrap .i64 (((a0.Pins.length:Int))-1)))&&((a.Dir !=1))))) (some (0,false)) (cond a.Clock (Jo n a0 k0 m (wrap .i64 (c+1)) (wrap .i64 (b+1))) (Jo n a0 k0 m c (wrap .i64 (b+1)))))) n 0) (k0 c b)
def oX(n:Nat)(a0:AX):Option (Int×Bool):=cond ((decide ((a0.Pins.length:Int)<2))||(decide ((a0.Pins.length:Int)>5))) (some (0,false)) (Jo n a0 (fun a b=>some (a,true)) n 0 0)
theorem W_h{d:AX}{j:Int×Bool}{C D E:Value}(a:oX n d=some j)(hH:H<=w.heap.size)(t:AR C_Pin w H d.Pins C)(a0:AR C_Arc w H d.Arcs D)(b0:AR (AL .i64) w H d.Truth E):
 Calls prog 181 [.agg #[.string d.Name,.i d.Kind,C,D,E,.i d.Leak,.i d.Energy]].toArray w (DA fun K L=>K= .tuple #[.i j.1,.bool j.2]∧AJ w L):=by
 unfold oX at a;refine AA func181 z ntmps181 (Rc 2 (Ef z (AF z z) ?_));rintro _ M ⟨F,rfl,c0,d0,m,f⟩;have e0:=m.size;refine Ro 6 (Dq Bk Cr f CU (t.oj m) (Ro 9 (jT 3 [1,4] 17 14 ?_)));refine Ro 2 (Wt a m ?_);intro a;refine Rc 14 (WC.loopD (fun i g wl=>∃h e:Int,Kn 86 [(1,.p F),(4,.i ((d.Pins.length:Int))),(5,.i h),(6,.i e)] g∧AJ M wl∧Jo n d (fun h e=>(some (h,true))) i h e=some j) n ?_ ?_)
 ·intro g hK;exact⟨0,0,hK.sub z,AJ.refl _,a⟩
 ·rintro i g f0 ⟨h,e,hK,o,a⟩;refine By hK ?_;rcases i with _|i;exact Bx a;rw [Jo.eq_2]at a;have⟨u,g0⟩:=Et m o;have f:=f.ext o;refine Rc 8 (Wf a u ?_);intro a;refine Rc 6 (Fl Bk Cr f (Ro 1 (Ix a (t.oj u) CU Bt ?_)));rintro b h0 a _ ⟨i0,j0,k0,rfl,l0,N,O⟩;obtain rfl:=Bg N;refine Yl z (CJ (us:=[.string b.Name,.i b.Dir,.i b.Cap,.bool b.Clock]) z JF O Bt) (Ef z (AY z My) ?_);rintro _ m0 ⟨P,rfl,n0,o0,p,c⟩;have⟨Q,p0⟩:=Et u p;have f:=f.ext p;refine Ef z (Cu z c Bt z z) ?_;rintro _ R ⟨q,S⟩;have⟨T,q0⟩:=Eu Q q;have f:=f.upd q (by omega);have c:=S;have⟨U,V,a⟩:=Ud a;refine Ro 9 (WC.loopD (fun k g wl=>∃r:Int,Kn 86 [(1,.p F),(4,.i ((d.Pins.length:Int))),(5,.i h),(6,.i e),(7,.p P),(8,.i r)] g∧AJ R wl∧IP d e b U k r=some j) n ?_ ?_)
  ·intro g hK;exact⟨0,hK.sub z,AJ.refl _,a⟩
  ·rintro k g r0 ⟨r,hK,l,a⟩;refine By hK ?_;rcases k with _|k;exact Bx a;rw [IP.eq_2]at a;have⟨v,s0⟩:=Et T l;have⟨c,f⟩:=CB c f l;refine Rc 8 (Wc z a ?_ ?_)
   ·intro a;refine Rc 5 (BX Tryz.hm (Fq Bk Cr f (Qr 1 (Iq a (t.oj v) CU Bt ?_))));rintro t0 u0 a _ ⟨v0,w0,x0,rfl,y0,W,X⟩;obtain rfl:=Bg W;refine KW Fj Dl X (Fq Fj Dl c (Qr 1 ?_));refine QL.done fun z0 x=>?_;have⟨Y,A0⟩:=Et v x;have c:=c.ext x;refine Re 1 (Wt a Y ?_);intro a;refine Rc 9 ?_;intro g hK;exact⟨k,nr,(wrap .i64 (r+1)),hK.sub z,(AJ.trans l x),a⟩
   ·intro a;refine Rc 3 ?_
    subst V
    refine Re 5 (Fl Fj Dl c ?_);refine Cs a v SD (fun _=>yB) ?_;rintro B0 a C0 y ⟨G,D0⟩;have c:=c.ext y;refine Ro 2 (Lz 5 [1,4,5,6,7] 51 46 a ?_ ?_)
    ·intro Z a;refine Fl Es AI c ?_;refine Cs a G DK (fun _=>Ly) ?_;rintro E0 a F0 I ⟨G0,H0⟩;have c:=c.ext I;cases BQ a;exact Ro 1 (Ro 1 (DU I))
    intro Z a;intro I0 s;have⟨J,J0⟩:=Et G s;have c:=c.ext s;refine Ro 2 (Wt a J ?_);intro a;refine Rc 10 (WV 13 [1,4,5,6,7] 69 ((((e==(wrap .i64 (((d.Pins.length:Int))-1))))&&((((((b.Dir !=2))||((b.Cap !=0))))||b.Clock)))) z ?_ ?_)
    ·refine Kd 56 z (fun A=>?_) fun A=>?_
     ·refine Fl Fh AI c (Ro 2 (Rj 4 [1,4,5,6,7,56,57,58,59,60] 64 60 ((b.Cap !=0)) z ?_ ?_))
      ·exact Fl Es AI c (Ro 2 (DI))
      refine Ro 1 (Rj 3 [1,4,5,6,7,56,57,58,59,60,64,65] 68 65 b.Clock z ?_ ?_)
      ·exact Fl CX Ed c (Ro 1 (DI))
      exact Ro 1 (Kc 69 (uY (b:=(((((b.Dir !=2))||((b.Cap !=0))))||b.Clock)) A) z (DI))
     ·exact Ro 13 (Kc 69 (vE (b:=(((((b.Dir !=2))||((b.Cap !=0))))||b.Clock)) A) z (DI))
    refine Ro 1 (WV 10 [1,4,5,6,7] 80 ((((((e==(wrap .i64 (((d.Pins.length:Int))-1))))&&((((((b.Dir !=2))||((b.Cap !=0))))||b.Clock))))||(((decide (e<wrap .i64 (((d.Pins.length:Int))-1)))&&((b.Dir !=1)))))) z ?_ ?_)
    ·refine Kd 70 z (fun B=>?_) fun B=>?_
     ·exact Ro 10 (Kc 80 (vB (b:=((decide (e<wrap .i64 (((d.Pins.length:Int))-1)))&&((b.Dir !=1)))) B) z (DI))
     ·refine Ro 5 (Iu 4 [1,4,5,6,7,70,71,72,73,74,75] 79 75 ((b.Dir !=1)) z ?_ ?_)
      ·exact Fl Fh AI c (Ro 2 (DI))
      exact Ro 1 (Kc 80 (uV (b:=((decide (e<wrap .i64 (((d.Pins.length:Int))-1)))&&((b.Dir !=1)))) B) z (DI))
    refine Ro 2 (Wt a J ?_);intro a;refine Rc 4 (Fl CX Ed c (Ro 2 (Wc z a ?_ ?_)))
    ·intro a;refine Rc 13 ?_;intro g hK;exact⟨i,nr,(wrap .i64 (h+1)),(wrap .i64 (e+1)),hK.sub z,(AJ.trans (AJ.trans (AJ.trans (Eu (AJ.trans o p) q).1 l) y) s),a⟩
    ·intro a;refine Rc 9 ?_;intro g hK;exact⟨i,nr,h,(wrap .i64 (e+1)),hK.sub z,(AJ.trans (AJ.trans (AJ.trans (Eu (AJ.trans o p) q).1 l) y) s),a⟩
def He(n:Nat)(a0:List Int)(k0:Int->Option Bool):Nat->Int->Option Bool
 |0,_=>none
 |m+1,a=>cond (decide (a<(a0.length:Int))) ((AE a0 a).bind fun f=>(GV n f 0 100000).bind fun e=>(cond (!e) (some true) ((cond (decide (a>0)) ((AE a0 (wrap .i64 (a-1))).bind fun c=>(AE a0 a).bind fun d=>some (decide (c>=d))) (some false)).bind fun b=>some b)).bind fun b=>cond b (some false) (He n a0 k0 m (wrap .i64 (a+1)))) (k0 a)
def Uj(n:Nat)(a0:List Int):Option Bool:=He n a0 (fun a=>some (((decide ((a0.length:Int)>=1))&&(decide ((a0.length:Int)<=4))))) n 0
theorem sG{f:List Int}{i:Bool}{j:Value}(a:Uj n f=some i)(s:H<=w.heap.size)(c:AR (AL .i64) w H f j):
 Calls prog 228 [j].toArray w (Ao (.bool i) w):=by
 unfold Uj at a;have⟨l,m,a⟩:=Ud a;refine AA func228 z ntmps228 (Rc 12 (WC.loopD (fun d g wl=>∃h:Int,Kn 40 [(0,j),(3,.i h)] g∧AJ w wl∧He n f l d h=some i) n ?_ ?_))
 ·intro g e;exact⟨0,e.sub z,AJ.refl _,a⟩
 ·rintro d g t ⟨h,e,b,a⟩;refine By e ?_;rcases d with _|d;exact Bx a;rw [He.eq_2]at a;have u:=b.size;refine Rc 5 (Yl z (Bs z Af (c.oj b)) (Ro 3 (Wc z a ?_ ?_)))
  ·intro a;refine Rc 5 (BX Tryz.hm (Qr 2 (OI a (c.oj b) Af Ap AI ?_)));rintro v a _;have⟨x,o,a⟩:=AH a;refine Ql z (Iz z DK fun w' hw'=>(Ly o:)) ?_;refine Qr 2 (VD 15 [0,3] 31 16 a ?_ ?_)
   ·intro p a;refine Qr 3 (Lt 11 [0,3,16,17,18,19] 30 19 a ?_ ?_)
    ·intro q a;refine Qr 3 (OI a (c.oj b) Af Ap AI ?_);rintro y a _;refine Qr 2 (OI a (c.oj b) Af Ap AI ?_);rintro A a _;refine Qr 1 ?_;cases BQ a;exact Qr 1 Mm
    intro q a;cases BQ a;exact Qr 1 Mm
   intro p a;refine QL.done fun B k=>?_;have⟨r,C⟩:=Et b k;refine Re 1 (Wt a r ?_);intro a;refine Rc 9 ?_;intro g e;exact⟨d,nr,(wrap .i64 (h+1)),e.sub z,(AJ.trans b k),a⟩
  ·intro a;refine Rc 3 ?_
   subst m
   refine Re 5 (Yl z (Bs z Af (c.oj b)) (Ro 2 (Iu 4 [] 39 35 (decide ((f.length:Int)<=4)) z ?_ ?_)))
   ·exact Ro 1 (Yl z (Bs z Af (c.oj b)) (Ro 2 (DI)))
   exact DW a b
def Ia(n:Nat)(a0:AS)(k0:Int->Option Bool):Nat->Int->Option Bool
 |0,_=>none
 |m+1,a=>cond (decide (a<(a0.Values.length:Int))) ((AE a0.Values a).bind fun c=>(GV n c (-1000000) 1000000).bind fun b=>cond (!b) (some false) (Ia n a0 k0 m (wrap .i64 (a+1)))) (k0 a)
def Vw(n:Nat)(a0:AS):Option Bool:=(Uj n a0.Slews).bind fun c=>(cond (!c) (some true) ((Uj n a0.Loads).bind fun a=>some (!a))).bind fun b=>cond (b||((((a0.Values.length:Int)) !=(wrap .i64 (((a0.Slews.length:Int))*((a0.Loads.length:Int))))))) (some false) (Ia n a0 (fun d=>some true) n 0)
theorem zL{c:AS}{j:Bool}{q r s:Value}(a:Vw n c=some j)(F:H<=w.heap.size)(t:AR (AL .i64) w H c.Slews q)(u:AR (AL .i64) w H c.Loads r)(k:AR (AL .i64) w H c.Values s):
 Calls prog 216 [.agg #[q,r,s]].toArray w (Ao (.bool j) w):=by
 unfold Vw at a;refine AA func216 z ntmps216 (Rc 2 (Ef z (AF z z) ?_));rintro _ G ⟨y,rfl,I,J,l,b⟩;have K:=l.size;refine Ro 6 (Fl EQ Ad b ?_);refine Cs a l YM (fun _ m=>(sG m (by omega) (t.oj l):)) ?_;rintro L a M A ⟨o,N⟩;have b:=b.ext A;refine Ro 2 (Lz 5 [1] 13 8 a ?_ ?_)
 ·intro B a;refine Fl Dk Ad b ?_;refine Cs a o YM (fun _ m=>(sG m (by omega) (u.oj o):)) ?_;rintro O a P v ⟨Q,R⟩;have b:=b.ext v;cases BQ a;exact Ro 1 (Ro 1 (DU v))
 intro B a;intro C x;have⟨d,S⟩:=Et o x;have b:=b.ext x;refine Ro 1 (Rj 12 [1] 26 14 ((((c.Values.length:Int)) !=(wrap .i64 (((c.Slews.length:Int))*((c.Loads.length:Int)))))) z ?_ ?_)
 ·exact Dq CF Ad b Af (k.oj d) (Dq EQ Ad b Af (t.oj d) (Dq Dk Ad b Af (u.oj d) (Ro 3 (DI))))
 refine Ro 2 (Wt a d ?_);intro a;refine Rc 9 (WC.loopD (fun e h wl=>∃f:Int,Kn 41 [(1,.p y),(3,.i f)] h∧AJ C wl∧Ia n c (fun f=>(some true)) e f=some j) n ?_ ?_)
 ·intro h g;exact⟨0,g.sub z,AJ.refl _,a⟩
 ·rintro e h T ⟨f,g,p,a⟩;refine By g ?_;rcases e with _|e;exact Bx a;rw [Ia.eq_2]at a;have⟨i,U⟩:=Et d p;have b:=b.ext p;refine Rc 4 (Dq CF Ad b Af (k.oj i) (Ro 3 (Wf a i ?_)));intro a;refine Rc 6 (Fl CF Ad b (Ro 1 (Il a (k.oj i) Af Ap AI ?_)));rintro V a _;refine Cs a i DK (fun _=>Ly) ?_;rintro W a X D ⟨E,Y⟩;refine Ro 3 (Wt a E ?_);intro a;refine Rc 9 ?_;intro h g;exact⟨e,nr,(wrap .i64 (f+1)),g.sub z,(AJ.trans p D),a⟩
def Hv(a0:AS)(k0:Int->Int->Int->Option (AV×Int)):Nat->Int->Int->Int->Option (AV×Int)
 |0,_,_,_=>none
 |m+1,a,d,b=>cond (decide (a<(a0.Values.length:Int))) ((AE a0.Values a).bind fun e=>(AE a0.Values a).bind fun c=>Hv a0 k0 m (wrap .i64 (a+1)) (min d e) (max b c)) (k0 a d b)
def VG(n:Nat)(a0:AS):Option (AV×Int):=(Vw n a0).bind fun e=>cond (!e) (some ((AV.mk 0 0),1)) ((AE a0.Values 0).bind fun c=>(AE a0.Values 0).bind fun d=>Hv a0 (fun f b a=>some ((AV.mk b a),0)) n 1 c d)
theorem xV{j:AS}{k:AV×Int}{t u v:Value}(hF:VG n j=some k)(hH:H<=w.heap.size)(U:AR (AL .i64) w H j.Slews t)(V:AR (AL .i64) w H j.Loads u)(i:AR (AL .i64) w H j.Values v):
 Calls prog 208 [.agg #[t,u,v]].toArray w (DA fun W X=>W= .tuple #[.agg #[.i k.1.Early,.i k.1.Late],.i k.2]∧AJ w X):=by
 unfold VG at hF;refine AA func208 z ntmps208 (Rc 2 (Ef z (AF z z) ?_));rintro _ B0 ⟨C,rfl,C0,D0,D,a⟩;have E0:=D.size;refine Ef z (AY z En) ?_;rintro _ F0 ⟨p,rfl,G0,H0,E,b⟩;have⟨q,I0⟩:=Et D E;have a:=a.ext E;refine Ro 6 (Yl z (CC z HP a Cy) ?_);refine Cs hF q jL (fun _ Y=>(zL Y (by omega) (U.oj q) (V.oj q) (i.oj q):)) ?_;rintro J0 hF K0 Z ⟨F,L0⟩;have⟨a,b⟩:=CB a b Z;refine Ro 3 (Wc z hF ?_ ?_)
 ·intro hF;refine Rc 2 (Yl z (Cq (uss:=[]) (out:=[.i 0,.i 0]) z z En Ip z z) (Ef z (Cu z b BY z z) ?_));rintro _ M0 ⟨G,a0⟩;have⟨b0,N0⟩:=Eu F G;have a:=a.upd G (by omega);have b:=a0;cases BQ hF;exact Ro 5 (NX.end (rs:=[.cell 2 78,.tmp 3]) (vs:=[.agg #[.i 0,.i 0],.i 1]) z ⟨⟨p,z,Ey FF BY b⟩,z,trivial⟩ ⟨_,z,z,b0⟩)
 ·intro hF;have⟨I,c0,hF⟩:=AH hF;have⟨J,d0,hF⟩:=AH hF;refine Rc 3 ?_;refine CZ 10 Tryz.hm fun K L f=>?_;have⟨x,O0⟩:=Et F L;have⟨a,b⟩:=CB a b L;refine BO 0 f z (BF z CF) (BO 1 f z (Di z Ad a z) (GS 2 f z (EJ z Af Ap (i.oj x) c0) ?_));rintro _ ⟨P0,Q0,_,rfl,R0,rfl,e0⟩;refine BO 3 f z (FG 0 z AI e0 z z) (BO 4 f z (BF z CF) (BO 5 f z (Di z Ad a z) (GS 6 f z (EJ z Af Ap (i.oj x) d0) ?_)));rintro _ ⟨S0,T0,_,rfl,U0,rfl,f0⟩;refine BO 7 f z (FG 0 z AI f0 z z) (BO 8 f z (CD [.i I,.i J] z z En Ip z) (Ka 9 z (AY z En) ?_));rintro _ g0 ⟨M,rfl,V0,W0,y,A⟩;have h0:AJ K g0:=AJ.trans (AJ.refl K) y;have⟨i0,X0⟩:=Et x y;have⟨a,b⟩:=CB a b y;refine⟨h0,?_⟩;refine KD z (Ef z (Cu z A BY z z) ?_);rintro _ j0 ⟨N,k0⟩;have⟨l0,Y0⟩:=Eu i0 N;have⟨a,b⟩:=Ky a b N;have A:=k0;refine TL.noPan (l:=[]) (Re 8 ?_);have⟨m0,n0,hF⟩:=GkD hF;refine WC.loopD (fun l r wl=>∃s m o:Int,Kn 45 [(1,.p C),(2,.p p),(4,.p M),(5,.i s)] r∧AJ w wl∧j0.heap.size<=wl.heap.size∧BK wl p [.i 0,.i 0] 78∧BK wl C [t,u,v] 185∧BK wl M [.i m,.i o] 78∧Hv j m0 l s m o=some k) n ?_ ?_
  ·intro r hK;exact⟨1,I,J,hK.sub z,l0,nr,b,a,A,hF⟩
  ·rintro l r Z0 ⟨s,m,o,hK,B,a1,c,d,e,hF⟩;refine By hK ?_;rcases l with _|l;exact Bx hF;rw [Hv.eq_2]at hF;refine Rc 4 (Dq CF Ad d Af (i.oj B) (Ro 3 (Wc z hF ?_ ?_)))
   ·intro hF;have⟨o0,p0,hF⟩:=AH hF;refine Rc 5 ?_;refine CZ 7 Tryz.hm fun b1 O g=>?_;have⟨P,c1⟩:=Et B O;have⟨c,d,e⟩:=FS c d e O;refine BO 0 g z (BF z Bb) (BO 1 g z (Di z AI e z) (BO 2 g z (BF z CF) (BO 3 g z (Di z Ad d z) (EP g [4] (GS 5 g z (EJ z Af Ap (i.oj P) p0) ?_)))));rintro _ ⟨d1,e1,_,rfl,f1,rfl,q0⟩;refine BO 6 g z (FG 0 z AI q0 z z) (KD z (Yl z (Ff z z z) (Yl z (BF z Bb) (Ef z (Cu z e Ap z z) ?_))));rintro _ g1 ⟨Q,r0⟩;have⟨s0,h1⟩:=Eu P Q;have⟨c,d⟩:=Ky c d Q;have e:=r0;refine TL.noPan (l:=[]) (Re 1 ?_);have⟨t0,u0,hF⟩:=AH hF;refine CZ 7 Tryz.hm fun i1 R h=>?_;have⟨S,j1⟩:=Et s0 R;have⟨c,d,e⟩:=FS c d e R;refine BO 0 h z (BF z BW) (BO 1 h z (Di z AI e z) (BO 2 h z (BF z CF) (BO 3 h z (Di z Ad d z) (EP h [4] (GS 5 h z (EJ z Af Ap (i.oj S) u0) ?_)))));rintro _ ⟨k1,l1,_,rfl,m1,rfl,v0⟩;refine BO 6 h z (FG 0 z AI v0 z z) (KD z (Yl z (GI z z z) (Yl z (BF z BW) (Ef z (Cu z e Ap z z) ?_))));rintro _ n1 ⟨T,w0⟩;have⟨x0,o1⟩:=Eu S T;have⟨c,d⟩:=Ky c d T;have e:=w0;refine TL.noPan (l:=[]) (Re 8 ?_);intro r hK;exact⟨l,nr,(wrap .i64 (s+1)),(min m o0),(max o t0),hK.sub z,x0,(by omega),c,d,e,hF⟩
   ·intro hF;refine Rc 3 ?_
    subst n0
    refine Re 4 (Yl z (CC z FF e BY) (Ef z (Cu z c BY z z) ?_));rintro _ p1 ⟨y0,z0⟩;have⟨A0,q1⟩:=Eu B y0;have c:=z0;cases BQ hF;exact Ro 4 (NX.end (rs:=[.cell 2 78,.tmp 3]) (vs:=[.agg #[.i m,.i o],.i 0]) z ⟨⟨p,z,Ey FF BY c⟩,z,trivial⟩ ⟨_,z,z,A0⟩)
def LL(n:Nat)(a0:List AS)(a1:Bool)(k0:Int->Option Bool):Nat->Int->Option Bool
 |0,_=>none
 |m+1,b=>cond (decide (b<2)) ((AE a0 b).bind fun c=>(VG n c).bind fun a=>cond (((a.2 !=0))||((a1&&(decide (a.1.Early<0))))) (some false) (LL n a0 a1 k0 m (wrap .i64 (b+1)))) (k0 b)
def TX(n:Nat)(a0:List AS)(a1:Bool):Option Bool:=cond (((a0.length:Int)) !=2) (some false) (LL n a0 a1 (fun a=>some true) n 0)
theorem aC{i:List AS}{b j:Bool}{k:Value}(a:TX n i b=some j)(hH:H<=w.heap.size)(o:AR C_Table w H i k):
 Calls prog 197 [k,.bool b].toArray w (Ao (.bool j) w):=by
 have p:=AJ.refl w;unfold TX at a;refine AA func197 z ntmps197 (Rc 9 (Yl z (Bs z GK (o.oj p)) (Ro 3 (Wt a p ?_))));intro a;refine Rc 9 (WC.loopD (fun c h wl=>∃d:Int,Kn 33 [(0,k),(1,.bool b),(5,.i d)] h∧AJ w wl∧LL n i b (fun d=>(some true)) c d=some j) n ?_ ?_)
 ·intro h e;exact⟨0,e.sub z,AJ.refl _,a⟩
 ·rintro c h J ⟨d,e,f,a⟩;refine By e ?_;rcases c with _|c;exact Bx a;rw [LL.eq_2]at a;have K:=f.size;refine Rc 7 (Wf a f ?_);intro a;refine Rc 8 (Ix a (o.oj f) GK Cy ?_);rintro L M a _ ⟨N,O,P,rfl,Q,t,u⟩;obtain⟨v,x,y,rfl,A,B,C⟩:=Co t;refine Yl z (CJ (us:=[v,x,y]) z HP u Cy) ?_;refine Cg a lC (fun _ D=>(xV D (by omega) A B C:)) ?_;rintro g a _ R ⟨rfl,q⟩;have⟨E,S⟩:=Et f q;refine Ro 3 (Ef z (AY z En) ?_);rintro _ T ⟨U,rfl,V,W,r,l⟩;have⟨F,X⟩:=Et E r;refine Ef z (Cu z l BY z z) ?_;rintro _ Y ⟨s,G⟩;have⟨I,Z⟩:=Eu F s;have l:=G;refine Ro 8 (WV 7 [0,1,5] 32 ((((g.2 !=0))||((b&&(decide (g.1.Early<0)))))) z ?_ ?_)
  ·refine Kd 25 z (fun m=>?_) fun m=>?_
   ·exact Ro 7 (Kc 32 (vB (b:=(b&&(decide (g.1.Early<0)))) m) z (DI))
   ·refine Ro 2 (Iu 4 [0,1,5,25,26,27] 31 27 (decide (g.1.Early<0)) z ?_ ?_)
    ·exact Fl Bb AI l (Ro 2 (DI))
    exact Ro 1 (Kc 32 (uV (b:=(b&&(decide (g.1.Early<0)))) m) z (DI))
  refine Ro 2 (Wt a I ?_);intro a;refine Rc 9 ?_;intro h e;exact⟨c,nr,(wrap .i64 (d+1)),e.sub z,(Eu (AJ.trans (AJ.trans f q) r) s).1,a⟩
def Vx(n:Nat)(a0:AX)(a1:Ah):Option Bool:=(GV n a1.From 0 (wrap .i64 ((wrap .i64 (((a0.Pins.length:Int))-1))-1))).bind fun D=>(cond (!D) (some true) ((GV n a1.To 0 (wrap .i64 (((a0.Pins.length:Int))-1))).bind fun K=>some (!K))).bind fun E=>cond E (some false) ((AE a0.Pins a1.From).bind fun a=>cond (a1.Kind==1) ((cond ((!a.Clock)&&((a1.To==(wrap .i64 (((a0.Pins.length:Int))-1))))) ((GV n a1.Sense 1 3).bind fun M=>some M) (some false)).bind fun I=>(cond I ((TX n a1.Delay true).bind fun G=>some G) (some false)).bind fun L=>(cond L ((TX n a1.Slew true).bind fun J=>some J) (some false)).bind fun N=>some N) (cond (a1.Kind==2) (cond (a1.Kind==2) ((cond (((a.Clock&&((a1.To==(wrap .i64 (((a0.Pins.length:Int))-1))))))&&((a1.Sense==0))) ((TX n a1.Delay true).bind fun F=>some F) (some false)).bind fun C=>(cond C ((TX n a1.Slew true).bind fun i=>some i) (some false)).bind fun c=>some c) (cond (a1.Kind==4) (cond (a1.Kind==4) ((cond (a.Clock&&(decide (a1.To<wrap .i64 (((a0.Pins.length:Int))-1)))) ((AE a0.Pins a1.To).bind fun r=>some (!r.Clock)) (some false)).bind fun v=>(cond (v&&((a1.Sense==0))) ((TX n a1.Delay false).bind fun h=>some h) (some false)).bind fun t=>some ((t&&((((a1.Slew.length:Int))==0))))) (some false)) (cond (a1.Kind==5) ((cond (a.Clock&&(decide (a1.To<wrap .i64 (((a0.Pins.length:Int))-1)))) ((AE a0.Pins a1.To).bind fun j=>some (!j.Clock)) (some false)).bind fun l=>(cond (l&&((a1.Sense==0))) ((TX n a1.Delay false).bind fun A=>some A) (some false)).bind fun B=>some ((B&&((((a1.Slew.length:Int))==0))))) (some false)))) (cond (a1.Kind==3) ((cond (((a.Clock&&((a1.To==(wrap .i64 (((a0.Pins.length:Int))-1))))))&&((a1.Sense==0))) ((TX n a1.Delay true).bind fun d=>some d) (some false)).bind fun p=>(cond p ((TX n a1.Slew true).bind fun u=>some u) (some false)).bind fun k=>some k) (cond (a1.Kind==4) (cond (a1.Kind==4) ((cond (a.Clock&&(decide (a1.To<wrap .i64 (((a0.Pins.length:Int))-1)))) ((AE a0.Pins a1.To).bind fun g=>some (!g.Clock)) (some false)).bind fun x=>(cond (x&&((a1.Sense==0))) ((TX n a1.Delay false).bind fun e=>some e) (some false)).bind fun y=>some ((y&&((((a1.Slew.length:Int))==0))))) (some false)) (cond (a1.Kind==5) ((cond (a.Clock&&(decide (a1.To<wrap .i64 (((a0.Pins.length:Int))-1)))) ((AE a0.Pins a1.To).bind fun o=>some (!o.Clock)) (some false)).bind fun b=>(cond (b&&((a1.Sense==0))) ((TX n a1.Delay false).bind fun s=>some s) (some false)).bind fun f=>some ((f&&((((a1.Slew.length:Int))==0))))) (some false))))))
theorem vM{g:AX}{e:Ah}{p:Bool}{q r s t u:Value}(a:Vx n g e=some p)(I0:H<=w.heap.size)(j:AR C_Pin w H g.Pins q)(J0:AR C_Arc w H g.Arcs r)(K0:AR (AL .i64) w H g.Truth s)(h:AR C_Table w H e.Delay t)(i:AR C_Table w H e.Slew u):
 Calls prog 182 [.agg #[.string g.Name,.i g.Kind,q,r,s,.i g.Leak,.i g.Energy],.agg #[.i e.Kind,.i e.From,.i e.To,.i e.Sense,t,u]].toArray w (Ao (.bool p) w):=by
 unfold Vx at a;refine AA func182 z ntmps182 (Rc 2 (Ef z (AF z z) ?_));rintro _ L0 ⟨M0,rfl,N0,O0,v,c⟩;have P0:=v.size;refine Ef z (AF z z) ?_;rintro _ Q0 ⟨R0,rfl,S0,T0,x,b⟩;have⟨y,U0⟩:=Et v x;have c:=c.ext x;refine Ro 5 (Dq Bk Cr c CU (j.oj y) (Ro 7 (Fl Cb AI b (Ro 2 ?_))));refine Cs a y DK (fun _=>Ly) ?_;rintro V0 a W0 e0 ⟨A,X0⟩;have⟨c,b⟩:=CB c b e0;refine Ro 2 (Lz 6 [2,3,5] 23 17 a ?_ ?_)
 ·intro f0 a;refine Fl Bv AI b (Ro 1 ?_);refine Cs a A DK (fun _=>Ly) ?_;rintro Y0 a Z0 B ⟨a1,b1⟩;have⟨c,b⟩:=CB c b B;cases BQ a;exact Ro 1 (Ro 1 (DU B))
 intro f0 a;intro c1 C;have⟨d,d1⟩:=Et A C;have⟨c,b⟩:=CB c b C;refine Ro 2 (Wt a d ?_);intro a;refine Rc 4 (Fl Bk Cr c (Fl Cb AI b (Ix a (j.oj d) CU Bt ?_)));rintro e1 f1 a _ ⟨g1,h1,i1,rfl,j1,g0,h0⟩;obtain rfl:=Bg g0;refine Fc CX Ed h0 (Ro 6 (Fl Bo AI b (Ro 9 (Wc z a ?_ ?_))))
 ·intro a;refine Rc 5 (Iu 5 [3] 42 37 ((e.To==(wrap .i64 (((g.Pins.length:Int))-1)))) z ?_ ?_)
  ·exact Fl Bv AI b (Ro 3 (DI))
  refine Ro 1 (FO 4 [3] 47 43 a ?_ ?_)
  ·intro i0 a;refine Fl DF AI b ?_;refine Cs a d DK (fun _=>Ly) ?_;rintro k1 a l1 D ⟨m1,n1⟩;have⟨c,b⟩:=CB c b D;cases BQ a;exact Ro 1 (DU D)
  intro i0 a;intro o1 E;have⟨k,p1⟩:=Et d E;have⟨c,b⟩:=CB c b E;refine Ro 1 (FO 4 [3] 52 48 a ?_ ?_)
  ·intro j0 a;refine Fl Db DX b ?_;refine Cs a k HM (fun _ f=>(aC f (by omega) (h.oj k):)) ?_;rintro q1 a r1 F ⟨s1,t1⟩;have⟨c,b⟩:=CB c b F;cases BQ a;exact Ro 1 (DU F)
  intro j0 a;intro u1 G;have⟨l,v1⟩:=Et k G;have⟨c,b⟩:=CB c b G;refine Ro 1 (FO 4 [] 57 53 a ?_ ?_)
  ·intro k0 a;refine Fl EN DX b ?_;refine Cs a l HM (fun _ f=>(aC f (by omega) (i.oj l):)) ?_;rintro w1 a x1 I ⟨y1,z1⟩;have⟨c,b⟩:=CB c b I;cases BQ a;exact Ro 1 (DU I)
  intro k0 a;intro A1 J;have⟨l0,B1⟩:=Et l J;have⟨c,b⟩:=CB c b J;exact DW a l0
 ·intro a;refine Rc 7 (Wc z a ?_ ?_)
  ·intro a;refine Rc 2 (Wc z a ?_ ?_)
   ·intro a;refine Rc 4 (Iu 5 [3] 67 62 ((e.To==(wrap .i64 (((g.Pins.length:Int))-1)))) z ?_ ?_)
    ·exact Fl Bv AI b (Ro 3 (DI))
    refine Ro 1 (Iu 4 [3] 72 68 ((e.Sense==0)) z ?_ ?_)
    ·exact Fl DF AI b (Ro 2 (DI))
    refine Ro 1 (FO 4 [3] 77 73 a ?_ ?_)
    ·intro m0 a;refine Fl Db DX b ?_;refine Cs a d HM (fun _ f=>(aC f (by omega) (h.oj d):)) ?_;rintro C1 a D1 K ⟨E1,F1⟩;have⟨c,b⟩:=CB c b K;cases BQ a;exact Ro 1 (DU K)
    intro m0 a;intro G1 L;have⟨m,H1⟩:=Et d L;have⟨c,b⟩:=CB c b L;refine Ro 1 (FO 4 [] 82 78 a ?_ ?_)
    ·intro n0 a;refine Fl EN DX b ?_;refine Cs a m HM (fun _ f=>(aC f (by omega) (i.oj m):)) ?_;rintro I1 a J1 M ⟨K1,L1⟩;have⟨c,b⟩:=CB c b M;cases BQ a;exact Ro 1 (DU M)
    intro n0 a;intro M1 N;have⟨o0,N1⟩:=Et m N;have⟨c,b⟩:=CB c b N;exact DW a o0
   ·intro a;refine Rc 7 (Wc z a ?_ ?_)
    ·intro a;refine Rc 2 (Wf a d ?_);intro a;refine Rc 4 (Iu 5 [2,3] 92 87 (decide (e.To<wrap .i64 (((g.Pins.length:Int))-1))) z ?_ ?_)
     ·exact Fl Bv AI b (Ro 3 (DI))
     refine Ro 1 (JB 9 [3] 102 93 a ?_ ?_)
     ·intro p0 a;refine Fl Bk Cr c (Fl Bv AI b (Ix a (j.oj d) CU Bt ?_));rintro O1 P1 a _ ⟨Q1,R1,S1,rfl,T1,q0,r0⟩;obtain rfl:=Bg q0;refine Fc CX Ed r0 (Ro 1 ?_);cases BQ a;exact Ro 1 (DI)
     intro p0 a;refine Ro 1 (Iu 4 [3] 107 103 ((e.Sense==0)) z ?_ ?_)
     ·exact Fl DF AI b (Ro 2 (DI))
     refine Ro 1 (FO 4 [3] 112 108 a ?_ ?_)
     ·intro s0 a;refine Fl Db DX b ?_;refine Cs a d HM (fun _ f=>(aC f (by omega) (h.oj d):)) ?_;rintro U1 a V1 O ⟨W1,X1⟩;have⟨c,b⟩:=CB c b O;cases BQ a;exact Ro 1 (DU O)
     intro s0 a;intro Y1 P;have⟨Q,Z1⟩:=Et d P;have⟨c,b⟩:=CB c b P;refine Ro 1 (Iu 5 [] 118 113 ((((e.Slew.length:Int))==0)) z ?_ ?_)
     ·exact Dq EN DX b GK (i.oj Q) (Ro 2 (DI))
     exact DW a Q
    ·intro a;refine Rc 5 (Wf a d ?_);intro a;refine Rc 4 (Iu 5 [2,3] 92 87 (decide (e.To<wrap .i64 (((g.Pins.length:Int))-1))) z ?_ ?_)
     ·exact Fl Bv AI b (Ro 3 (DI))
     refine Ro 1 (JB 9 [3] 102 93 a ?_ ?_)
     ·intro t0 a;refine Fl Bk Cr c (Fl Bv AI b (Ix a (j.oj d) CU Bt ?_));rintro a2 b2 a _ ⟨c2,d2,e2,rfl,f2,u0,v0⟩;obtain rfl:=Bg u0;refine Fc CX Ed v0 (Ro 1 ?_);cases BQ a;exact Ro 1 (DI)
     intro t0 a;refine Ro 1 (Iu 4 [3] 107 103 ((e.Sense==0)) z ?_ ?_)
     ·exact Fl DF AI b (Ro 2 (DI))
     refine Ro 1 (FO 4 [3] 112 108 a ?_ ?_)
     ·intro w0 a;refine Fl Db DX b ?_;refine Cs a d HM (fun _ f=>(aC f (by omega) (h.oj d):)) ?_;rintro g2 a h2 R ⟨i2,j2⟩;have⟨c,b⟩:=CB c b R;cases BQ a;exact Ro 1 (DU R)
     intro w0 a;intro k2 S;have⟨T,l2⟩:=Et d S;have⟨c,b⟩:=CB c b S;refine Ro 1 (Iu 5 [] 118 113 ((((e.Slew.length:Int))==0)) z ?_ ?_)
     ·exact Dq EN DX b GK (i.oj T) (Ro 2 (DI))
     exact DW a T
  ·intro a;refine Rc 5 (Wc z a ?_ ?_)
   ·intro a;refine Rc 4 (Iu 5 [3] 67 62 ((e.To==(wrap .i64 (((g.Pins.length:Int))-1)))) z ?_ ?_)
    ·exact Fl Bv AI b (Ro 3 (DI))
    refine Ro 1 (Iu 4 [3] 72 68 ((e.Sense==0)) z ?_ ?_)
    ·exact Fl DF AI b (Ro 2 (DI))
    refine Ro 1 (FO 4 [3] 77 73 a ?_ ?_)
    ·intro x0 a;refine Fl Db DX b ?_;refine Cs a d HM (fun _ f=>(aC f (by omega) (h.oj d):)) ?_;rintro m2 a n2 U ⟨o2,p2⟩;have⟨c,b⟩:=CB c b U;cases BQ a;exact Ro 1 (DU U)
    intro x0 a;intro q2 V;have⟨o,r2⟩:=Et d V;have⟨c,b⟩:=CB c b V;refine Ro 1 (FO 4 [] 82 78 a ?_ ?_)
    ·intro y0 a;refine Fl EN DX b ?_;refine Cs a o HM (fun _ f=>(aC f (by omega) (i.oj o):)) ?_;rintro s2 a t2 W ⟨u2,v2⟩;have⟨c,b⟩:=CB c b W;cases BQ a;exact Ro 1 (DU W)
    intro y0 a;intro w2 X;have⟨z0,x2⟩:=Et o X;have⟨c,b⟩:=CB c b X;exact DW a z0
   ·intro a;refine Rc 7 (Wc z a ?_ ?_)
    ·intro a;refine Rc 2 (Wf a d ?_);intro a;refine Rc 4 (Iu 5 [2,3] 92 87 (decide (e.To<wrap .i64 (((g.Pins.length:Int))-1))) z ?_ ?_)
     ·exact Fl Bv AI b (Ro 3 (DI))
     refine Ro 1 (JB 9 [3] 102 93 a ?_ ?_)
     ·intro A0 a;refine Fl Bk Cr c (Fl Bv AI b (Ix a (j.oj d) CU Bt ?_));rintro y2 z2 a _ ⟨A2,B2,C2,rfl,D2,B0,C0⟩;obtain rfl:=Bg B0;refine Fc CX Ed C0 (Ro 1 ?_);cases BQ a;exact Ro 1 (DI)
     intro A0 a;refine Ro 1 (Iu 4 [3] 107 103 ((e.Sense==0)) z ?_ ?_)
     ·exact Fl DF AI b (Ro 2 (DI))
     refine Ro 1 (FO 4 [3] 112 108 a ?_ ?_)
     ·intro D0 a;refine Fl Db DX b ?_;refine Cs a d HM (fun _ f=>(aC f (by omega) (h.oj d):)) ?_;rintro E2 a F2 Y ⟨G2,H2⟩;have⟨c,b⟩:=CB c b Y;cases BQ a;exact Ro 1 (DU Y)
     intro D0 a;intro I2 Z;have⟨a0,J2⟩:=Et d Z;have⟨c,b⟩:=CB c b Z;refine Ro 1 (Iu 5 [] 118 113 ((((e.Slew.length:Int))==0)) z ?_ ?_)
     ·exact Dq EN DX b GK (i.oj a0) (Ro 2 (DI))
     exact DW a a0
    ·intro a;refine Rc 5 (Wf a d ?_);intro a;refine Rc 4 (Iu 5 [2,3] 92 87 (decide (e.To<wrap .i64 (((g.Pins.length:Int))-1))) z ?_ ?_)
     ·exact Fl Bv AI b (Ro 3 (DI))
     refine Ro 1 (JB 9 [3] 102 93 a ?_ ?_)
     ·intro E0 a;refine Fl Bk Cr c (Fl Bv AI b (Ix a (j.oj d) CU Bt ?_));rintro K2 L2 a _ ⟨M2,N2,O2,rfl,P2,F0,G0⟩;obtain rfl:=Bg F0;refine Fc CX Ed G0 (Ro 1 ?_);cases BQ a;exact Ro 1 (DI)
     intro E0 a;refine Ro 1 (Iu 4 [3] 107 103 ((e.Sense==0)) z ?_ ?_)
     ·exact Fl DF AI b (Ro 2 (DI))
     refine Ro 1 (FO 4 [3] 112 108 a ?_ ?_)
     ·intro H0 a;refine Fl Db DX b ?_;refine Cs a d HM (fun _ f=>(aC f (by omega) (h.oj d):)) ?_;rintro Q2 a R2 b0 ⟨S2,T2⟩;have b:=b.ext b0;cases BQ a;exact Ro 1 (DU b0)
     intro H0 a;intro U2 c0;have⟨d0,V2⟩:=Et d c0;have b:=b.ext c0;refine Ro 1 (Iu 5 [] 118 113 ((((e.Slew.length:Int))==0)) z ?_ ?_)
     ·exact Dq EN DX b GK (i.oj d0) (Ro 2 (DI))
     exact DW a d0
def IK(a0:AX)(k0:Int->(List Int)->Option (List Int)):Nat->Int->(List Int)->Option (List Int)
 |0,_,_=>none
 |m+1,a,b=>cond (decide (a<(a0.Arcs.length:Int))) ((AE a0.Arcs a).bind fun c=>(AE b c.Kind).bind fun d=>(AE b c.Kind).bind fun e=>IK a0 k0 m (wrap .i64 (a+1)) ((b.set (c.Kind).toNat (wrap .i64 (d+1))))) (k0 a b)
def Zk(n:Nat)(a0:AX):Option (List Int):=(MY 6 8).bind fun a=>IK a0 (fun c b=>some b) n 0 (List.replicate a 0)
theorem wM{a:AX}{i:List Int}{j k l:Value}(hF:Zk n a=some i)(hH:H<=w.heap.size)(V:AR C_Pin w H a.Pins j)(q:AR C_Arc w H a.Arcs k)(W:AR (AL .i64) w H a.Truth l):
 Calls prog 183 [.agg #[.string a.Name,.i a.Kind,j,k,l,.i a.Leak,.i a.Energy]].toArray w (DA fun D r=>∃s,D=s∧AB (AL .i64) r w.heap.size (Iv 0 0) 2 i s∧AJ w r):=by
 unfold Zk at hF;refine AA func183 z ntmps183 (Rc 2 (Ef z (AF z z) ?_));rintro _ X ⟨t,rfl,Y,Z,u,m⟩;have a0:=u.size;have⟨E,F,hF⟩:=AH hF;refine Ro 5 (Ef z (CW (c:=(AL .i64)) (z:=0) z Af GU z z z F z z (fun _=>z)) ?_);rintro v G ⟨I,x,b0,c0,y,J⟩;have⟨K,d0⟩:=Et u y;have m:=m.ext y;have A:=BT x;clear x;refine Ro 10 (WC.loopD (fun c f wl=>∃(d:Int) (b:List Int),Kn 25 [(1,.p t),(3,v),(4,.i d)] f∧AJ w wl∧G.heap.size<=wl.heap.size∧BK wl t [.string a.Name,.i a.Kind,j,k,l,.i a.Leak,.i a.Energy] 131∧AB (AL .i64) wl (I) (Iv 0 0) 2 b v∧IK a (fun d b=>(some b)) c d b=some i) n ?_ ?_)
 ·intro f hK;exact⟨0,(List.replicate E 0),hK.sub z,K,nr,m,J,hF⟩
 ·rintro c f e0 ⟨d,b,hK,g,f0,e,h,hF⟩;refine By hK ?_;rcases c with _|c;exact Bx hF;rw [IK.eq_2]at hF;refine Rc 4 (Dq Be Cd e Bj (q.oj g) (Ro 3 (Wc z hF ?_ ?_)))
  ·intro hF;refine Rc 6 (Fl Be Cd e (Ro 1 (Ix hF (q.oj g) Bj BL ?_)));rintro L g0 hF _ ⟨h0,i0,j0,rfl,k0,M,N⟩;obtain⟨l0,m0,rfl,n0,o0⟩:=BP M;refine Fc Bo AI N (VU hF h Af Ap AI ?_);rintro o hF _;refine Ro 1 (Io hF h Af Ap ?_);rintro p0 O hF _ ⟨q0,r0,rfl,p,B,P⟩;have Q:=B;obtain rfl:=B;refine Ef z (Ag (c:=(AL .i64)) (us':=[.i (wrap .i64 (o+1))]) (y':=wrap .i64 (o+1)) 0 _ z z z h p O z Ap z Q P z z z (fun R S=>absurd S.2 (Nat.not_lt_zero R))) ?_;rintro _ s0 ⟨C,T⟩;have⟨U,t0⟩:=Eu g C (by have:=A _ p;omega);have e:=e.upd C (by have:=A _ p;omega);refine Ro 9 ?_;intro f hK;exact⟨c,nr,(wrap .i64 (d+1)),((b.set (L.Kind).toNat (wrap .i64 (o+1)))),hK.sub z,U,(by omega),e,T,hF⟩
  ·intro hF;cases BQ hF;exact Rc 12 (Ne z z ⟨_,z,_,z,AB.base h,g⟩)
def IV(a0:AX)(i61:Int)(x64:Ah)(k2:Int->Option Bool):Nat->Int->Option Bool
 |0,_=>none
 |m+1,a=>cond (decide (a<i61)) ((AE a0.Arcs a).bind fun d=>(cond (d.Kind==x64.Kind) ((AE a0.Arcs a).bind fun c=>some ((c.From==x64.From))) (some false)).bind fun e=>(cond e ((AE a0.Arcs a).bind fun f=>some ((f.To==x64.To))) (some false)).bind fun b=>cond b (some false) (IV a0 i61 x64 k2 m (wrap .i64 (a+1)))) (k2 a)
def JU(n:Nat)(a0:AX)(k5:Int->Option Bool):Nat->Int->Option Bool
 |0,_=>none
 |m+1,a=>cond (decide (a<(a0.Truth.length:Int))) ((AE a0.Truth a).bind fun b=>(GV n b 0 1).bind fun c=>cond (!c) (some false) (JU n a0 k5 m (wrap .i64 (a+1)))) (k5 a)
def Jd(n:Nat)(a0:AX)(k0:Int->Option Bool):Nat->Int->Option Bool
 |0,_=>none
 |m+1,a=>cond (decide (a<(a0.Arcs.length:Int))) ((AE a0.Arcs a).bind fun b=>(Vx n a0 b).bind fun c=>cond (!c) (some false) (IV a0 a b (fun d=>Jd n a0 k0 m (wrap .i64 (a+1))) n 0)) (k0 a)
def qE(n:Nat)(a0:AX):Option Bool:=(oX n a0).bind fun b=>(cond (!b.2) (some true) ((mL n a0.Name).bind fun t=>some (!t))).bind fun u=>(cond (u||(decide ((a0.Arcs.length:Int)>8))) (some true) ((GV n a0.Leak 0 100000).bind fun r=>some (!r))).bind fun v=>(cond v (some true) ((GV n a0.Energy 0 100000).bind fun s=>some (!s))).bind fun p=>cond p (some false) (Jd n a0 (fun A=>(Zk n a0).bind fun a=>cond (a0.Kind==1) (JU n a0 (fun y=>(cond (b.1==0) (cond (decide (IntKind.wrap IntKind.u64 (wrap .i64 (((a0.Pins.length:Int))-1))<0)) none (some ((((a0.Truth.length:Int))==(SN .i64 1 (IntKind.wrap IntKind.u64 (wrap .i64 (((a0.Pins.length:Int))-1)))))))) (some false)).bind fun x=>some x) n 0) (cond (a0.Kind==2) ((cond (b.1==1) ((AE a 1).bind fun e=>some ((e==0))) (some false)).bind fun c=>(cond c ((AE a 2).bind fun g=>(AE a 3).bind fun h=>some (((decide (g>0)) !=(decide (h>0))))) (some false)).bind fun f=>some ((f&&((((a0.Truth.length:Int))==0))))) (cond (a0.Kind==3) ((cond (b.1==1) ((AE a 1).bind fun d=>some (decide (d>0))) (some false)).bind fun k=>(cond k ((AE a 2).bind fun i=>some (decide (i>0))) (some false)).bind fun j=>(cond j ((AE a 3).bind fun o=>some ((o==0))) (some false)).bind fun l=>some ((l&&((((a0.Truth.length:Int))==0))))) (some false)))) n 0)
theorem W_7{c:AX}{p:Bool}{N O P:Value}(a:qE n c=some p)(hH:H<=w.heap.size)(x:AR C_Pin w H c.Pins N)(f:AR C_Arc w H c.Arcs O)(h:AR (AL .i64) w H c.Truth P):
 Calls prog 154 [.agg #[.string c.Name,.i c.Kind,N,O,P,.i c.Leak,.i c.Energy]].toArray w (Ao (.bool p) w):=by
 unfold qE at a;refine AA func154 z ntmps154 (Rc 2 (Ef z (AF z z) ?_));rintro _ Q0 ⟨E,rfl,R0,S0,q,b⟩;have T0:=q.size;refine Ro 5 (Yl z (CC z CI b BA) ?_);refine Cg a jS (fun _ r=>(W_h r (by omega) (x.oj q) (f.oj q) (h.oj q):)) ?_;rintro F a _ U0 ⟨rfl,Q⟩;have⟨R,V0⟩:=Et q Q;have b:=b.ext Q;refine Ro 13 (Lz 5 [1,3] 22 17 a ?_ ?_)
 ·intro f0 a;refine Fl Eh Dl b ?_;refine Cs a R SD (fun _=>yB) ?_;rintro W0 a X0 S ⟨Y0,Z0⟩;have b:=b.ext S;cases BQ a;exact Ro 1 (Ro 1 (DU S))
 intro f0 a;intro a1 T;have⟨G,b1⟩:=Et R T;have b:=b.ext T;refine Ro 1 (Rj 5 [1,3] 28 23 (decide ((c.Arcs.length:Int)>8)) z ?_ ?_)
 ·exact Dq Be Cd b Bj (f.oj G) (Ro 2 (DI))
 refine Ro 1 (Lz 5 [1,3] 34 29 a ?_ ?_)
 ·intro g0 a;refine Fl Ha AI b ?_;refine Cs a G DK (fun _=>Ly) ?_;rintro c1 a d1 U ⟨e1,f1⟩;have b:=b.ext U;cases BQ a;exact Ro 1 (Ro 1 (DU U))
 intro g0 a;intro g1 V;have⟨W,h1⟩:=Et G V;have b:=b.ext V;refine Ro 1 (Lz 5 [1,3] 40 35 a ?_ ?_)
 ·intro h0 a;refine Fl Hd AI b ?_;refine Cs a W DK (fun _=>Ly) ?_;rintro i1 a j1 X ⟨k1,l1⟩;have b:=b.ext X;cases BQ a;exact Ro 1 (Ro 1 (DU X))
 intro h0 a;intro i0 Y;have⟨Z,m1⟩:=Et W Y;have b:=b.ext Y;refine Ro 2 (Wt a Z ?_);intro a;have⟨j0,k0,a⟩:=Ud a;refine Rc 9 (WC.loopD (fun s d wl=>∃j:Int,Kn 182 [(1,.p E),(3,.i F.1),(5,.i j)] d∧AJ i0 wl∧Jd n c j0 s j=some p) n ?_ ?_)
 ·intro d hK;exact⟨0,hK.sub z,AJ.refl _,a⟩
 ·rintro s d n1 ⟨j,hK,I,a⟩;refine By hK ?_;rcases s with _|s;exact Bx a;rw [Jd.eq_2]at a;have⟨i,o1⟩:=Et Z I;have b:=b.ext I;refine Rc 4 (Dq Be Cd b Bj (f.oj i) (Ro 3 (Wc z a ?_ ?_)))
  ·intro a;refine Rc 6 (Fl Be Cd b (Ro 1 (Ix a (f.oj i) Bj BL ?_)));rintro t p1 a _ ⟨q1,r1,s1,rfl,t1,l0,m0⟩;obtain⟨n0,o0,rfl,k,l⟩:=BP l0;refine Yl z (CJ (us:=[.i t.Kind,.i t.From,.i t.To,.i t.Sense,n0,o0]) z Dz m0 BL) (Ef z (AY z Ew) ?_);rintro _ u1 ⟨p0,rfl,v1,w1,J,e⟩;have⟨q0,x1⟩:=Et i J;have⟨b,k,l⟩:=FS b k l J;refine Ef z (Cu z e BL (AC z (AC z (AC z (AC z (AC (AD.one k) (AC (AD.one l) Aw)))))) z) ?_;rintro _ y1 ⟨K,r0⟩;have⟨y,z1⟩:=Eu q0 K;have⟨b,k,l⟩:=OS b k l K;have e:=r0;refine Ro 5 (Yl z (CC z CI b BA) (Yl z (CC z Dz e BL) ?_));refine Cs a y mD (fun _ r=>(vM r (by omega) (x.oj y) (f.oj y) (h.oj y) k l:)) ?_;rintro A1 a s0 a0 ⟨b0,B1⟩;have⟨b,e⟩:=CB b e a0;refine Ro 3 (Wt a b0 ?_);intro a;have⟨t0,u0,a⟩:=Ud a;refine Rc 8 (WC.loopD (fun u d wl=>∃A:Int,Kn 182 [(1,.p E),(3,.i F.1),(5,.i j),(6,.p p0),(7,.i A)] d∧AJ s0 wl∧IV c j t t0 u A=some p) n ?_ ?_)
   ·intro d hK;exact⟨0,hK.sub z,AJ.refl _,a⟩
   ·rintro u d C1 ⟨A,hK,B,a⟩;refine By hK ?_;rcases u with _|u;exact Bx a;rw [IV.eq_2]at a;have⟨C,D1⟩:=Et b0 B;have⟨b,e⟩:=CB b e B;refine Rc 8 (Wc z a ?_ ?_)
    ·intro a;refine Rc 5 (BX Tryz.hm (Fq Be Cd b (Qr 1 (Iq a (f.oj C) Bj BL ?_))));rintro E1 F1 a _ ⟨G1,H1,I1,rfl,J1,v0,w0⟩;obtain⟨K1,L1,rfl,M1,N1⟩:=BP v0;refine KW Bo AI w0 (Fq Bo AI e (Qr 2 (Lt 10 [1,3,5,6,7] 81 71 a ?_ ?_)))
     ·intro x0 a;refine Fq Be Cd b (Qr 1 (Iq a (f.oj C) Bj BL ?_));rintro O1 P1 a _ ⟨Q1,R1,S1,rfl,T1,y0,z0⟩;obtain⟨U1,V1,rfl,W1,X1⟩:=BP y0;refine KW Cb AI z0 (Fq Cb AI e (Qr 1 ?_));cases BQ a;exact Qr 1 Mm
     intro x0 a;refine Qr 1 (Lt 10 [1,3,5,6,7] 92 82 a ?_ ?_)
     ·intro A0 a;refine Fq Be Cd b (Qr 1 (Iq a (f.oj C) Bj BL ?_));rintro Y1 Z1 a _ ⟨a2,b2,c2,rfl,d2,B0,C0⟩;obtain⟨e2,f2,rfl,g2,h2⟩:=BP B0;refine KW Bv AI C0 (Fq Bv AI e (Qr 1 ?_));cases BQ a;exact Qr 1 Mm
     intro A0 a;refine QL.done fun i2 L=>?_;have⟨D0,j2⟩:=Et C L;have b:=b.ext L;refine Re 1 (Wt a D0 ?_);intro a;refine Rc 9 ?_;intro d hK;exact⟨u,nr,(wrap .i64 (A+1)),hK.sub z,(AJ.trans B L),a⟩
    ·intro a;refine Rc 3 ?_
     subst u0
     refine Re 9 ?_;intro d hK;exact⟨s,nr,(wrap .i64 (j+1)),hK.sub z,(AJ.trans (AJ.trans (Eu (AJ.trans I J) K).1 a0) B),a⟩
  ·intro a;refine Rc 3 ?_
   subst k0
   refine Re 4 (Yl z (CC z CI b BA) ?_);refine Cg a jE (fun _ r=>(wM r (by omega) (x.oj i) (f.oj i) (h.oj i):)) ?_;rintro k2 a l2 E0 ⟨_,rfl,g,c0⟩;have⟨m,m2⟩:=Et i c0;have b:=b.ext c0;have n2:=AB.blk g;refine Ro 6 (Fl Ek AI b (Ro 9 (Wc z a ?_ ?_)))
   ·intro a;have⟨F0,G0,a⟩:=Ud a;refine Rc 7 (WC.loopD (fun v d wl=>∃D:Int,Kn 182 [(1,.p E),(3,.i F.1),(9,.i D)] d∧AJ E0 wl∧JU n c F0 v D=some p) n ?_ ?_)
    ·intro d hK;exact⟨0,hK.sub z,AJ.refl _,a⟩
    ·rintro v d o2 ⟨D,hK,M,a⟩;refine By hK ?_;rcases v with _|v;exact Bx a;rw [JU.eq_2]at a;have⟨o,p2⟩:=Et m M;have b:=b.ext M;refine Rc 4 (Dq DS Ad b Af (h.oj o) (Ro 3 (Wc z a ?_ ?_)))
     ·intro a;refine Rc 6 (Fl DS Ad b (Ro 1 (Il a (h.oj o) Af Ap AI ?_)));rintro q2 a _;refine Cs a o DK (fun _=>Ly) ?_;rintro r2 a s2 d0 ⟨H0,t2⟩;have b:=b.ext d0;refine Ro 3 (Wt a H0 ?_);intro a;refine Rc 9 ?_;intro d hK;exact⟨v,nr,(wrap .i64 (D+1)),hK.sub z,(AJ.trans M d0),a⟩
     ·intro a;refine Rc 3 ?_
      subst G0
      refine Re 7 (JB 11 [] 126 115 a ?_ ?_)
      ·intro I0 a;refine Dq DS Ad b Af (h.oj o) (Dq Bk Cr b CU (x.oj o) (Ro 1 (Yl z (Hb z iP Qv z) ?_)));have⟨J0,a⟩:=uS a;refine Yl z (TG z z z J0) (Ro 1 ?_);cases BQ a;exact Ro 1 (DI)
      intro I0 a;exact DW a o
   ·intro a;refine Rc 6 (Wc z a ?_ ?_)
    ·intro a;refine Rc 1 (BX Tryz.hm (Qr 3 (Lt 5 [1,8] 136 131 a ?_ ?_)))
     ·intro K0 a;refine Qr 1 (dE a g Af Ap AI ?_);rintro u2 a _;refine Qr 1 ?_;cases BQ a;exact Qr 1 Mm
     intro K0 a;refine Qr 1 (Lt 10 [1] 147 137 a ?_ ?_)
     ·intro L0 a;refine Qr 1 (dE a g Af Ap AI ?_);rintro v2 a _;refine Qr 2 (dE a g Af Ap AI ?_);rintro w2 a _;refine Qr 1 (Qy z (Mw z sX z z) ?_);cases BQ a;exact Qr 1 Mm
     intro L0 a;refine Qr 1 (Yh 5 [] 153 148 ((((c.Truth.length:Int))==0)) z ?_ ?_)
     ·exact Rf DS Ad b Af (h.oj m) (Qr 2 Mm)
     refine Qr 1 ?_;refine QL.done fun x2 e0=>?_;have⟨M0,y2⟩:=Et m e0;have⟨b,g⟩:=CB b g e0;exact Uc a M0
    ·intro a;refine Rc 6 (Wf a m ?_);intro a;refine Rc 5 (JB 5 [1,8] 163 158 a ?_ ?_)
     ·intro N0 a;refine Ro 1 (VU a g Af Ap AI ?_);rintro z2 a _;cases BQ a;exact Ro 1 (Ro 1 (DI))
     intro N0 a;refine Ro 1 (JB 5 [1,8] 169 164 a ?_ ?_)
     ·intro O0 a;refine Ro 1 (VU a g Af Ap AI ?_);rintro A2 a _;cases BQ a;exact Ro 1 (Ro 1 (DI))
     intro O0 a;refine Ro 1 (JB 5 [1] 175 170 a ?_ ?_)
     ·intro P0 a;refine Ro 1 (VU a g Af Ap AI ?_);rintro B2 a _;cases BQ a;exact Ro 1 (Ro 1 (DI))
     intro P0 a;refine Ro 1 (Iu 5 [] 181 176 ((((c.Truth.length:Int))==0)) z ?_ ?_)
     ·exact Dq DS Ad b Af (h.oj m) (Ro 2 (DI))
     exact DW a m
def Jn(a0:Ab)(i11:Int)(k2:Int->Option Bool):Nat->Int->Option Bool
 |0,_=>none
 |m+1,a=>cond (decide (a<i11)) ((AE a0.Cells a).bind fun b=>(AE a0.Cells i11).bind fun c=>cond (b.Name.toList==c.Name.toList) (some false) (Jn a0 i11 k2 m (wrap .i64 (a+1)))) (k2 a)
def HI(n:Nat)(a0:Ab)(k0:Int->Option Bool):Nat->Int->Option Bool
 |0,_=>none
 |m+1,a=>cond (decide (a<(a0.Cells.length:Int))) ((AE a0.Cells a).bind fun c=>(qE n c).bind fun b=>cond (!b) (some false) (Jn a0 a (fun d=>HI n a0 k0 m (wrap .i64 (a+1))) n 0)) (k0 a)
def sC(n:Nat)(a0:Ab):Option Bool:=HI n a0 (fun a=>some (decide ((a0.Cells.length:Int)<=8))) n 0
theorem W_f{j:Ab}{k:Bool}{s:Value}(a:sC n j=some k)(hH:H<=w.heap.size)(f:AR C_Cell w H j.Cells s):
 Calls prog 125 [.agg #[s]].toArray w (Ao (.bool k) w):=by
 unfold sC at a;refine AA func125 z ntmps125 (Rc 2 (Ef z (AF z z) ?_));rintro _ y ⟨t,rfl,U,V,u,b⟩;have W:=u.size;have⟨A,B,a⟩:=Ud a;refine Ro 10 (WC.loopD (fun g d wl=>∃e:Int,Kn 41 [(1,.p t),(3,.i e)] d∧AJ y wl∧HI n j A g e=some k) n ?_ ?_)
 ·intro d c;exact⟨0,c.sub z,AJ.refl _,a⟩
 ·rintro g d X ⟨e,c,p,a⟩;refine By c ?_;rcases g with _|g;exact Bx a;rw [HI.eq_2]at a;have⟨h,Y⟩:=Et u p;have b:=b.ext p;refine Rc 4 (Dq CH ED b EA (f.oj h) (Ro 3 (Wc z a ?_ ?_)))
  ·intro a;refine Rc 7 (Fl CH ED b (Ro 1 (Ix a (f.oj h) EA BA ?_)));rintro l Z a _ ⟨a0,b0,c0,rfl,d0,C,D⟩;obtain⟨E,F,G,rfl,I,J,K⟩:=BV C;refine Yl z (CJ (us:=[.string l.Name,.i l.Kind,E,F,G,.i l.Leak,.i l.Energy]) z CI D BA) ?_;refine Cs a h jJ (fun _ L=>(W_7 L (by omega) I J K:)) ?_;rintro e0 a M v ⟨x,f0⟩;have b:=b.ext v;refine Ro 3 (Wt a x ?_);intro a;have⟨N,O,a⟩:=Ud a;refine Rc 8 (WC.loopD (fun i d wl=>∃m:Int,Kn 41 [(1,.p t),(3,.i e),(4,.i m)] d∧AJ M wl∧Jn j e N i m=some k) n ?_ ?_)
   ·intro d c;exact⟨0,c.sub z,AJ.refl _,a⟩
   ·rintro i d g0 ⟨m,c,o,a⟩;refine By c ?_;rcases i with _|i;exact Bx a;rw [Jn.eq_2]at a;have⟨q,h0⟩:=Et x o;have b:=b.ext o;refine Rc 8 (Wc z a ?_ ?_)
    ·intro a;refine Rc 5 (BX Tryz.hm (Fq CH ED b (Qr 1 (Iq a (f.oj q) EA BA ?_))));rintro i0 j0 a _ ⟨k0,l0,m0,rfl,n0,P,Q⟩;obtain⟨o0,p0,q0,rfl,r0,s0,t0⟩:=BV P;refine KW Eh Dl Q (Fq CH ED b (Qr 1 (Iq a (f.oj q) EA BA ?_)));rintro u0 v0 a _ ⟨w0,x0,y0,rfl,z0,R,S⟩;obtain⟨A0,B0,C0,rfl,D0,E0,F0⟩:=BV R;refine KW Eh Dl S (Qr 1 ?_);refine QL.done fun G0 r=>?_;have⟨T,H0⟩:=Et q r;have b:=b.ext r;refine Re 1 (Wt a T ?_);intro a;refine Rc 9 ?_;intro d c;exact⟨i,nr,(wrap .i64 (m+1)),c.sub z,(AJ.trans o r),a⟩
    ·intro a;refine Rc 3 ?_
     subst O
     refine Re 9 ?_;intro d c;exact⟨g,nr,(wrap .i64 (e+1)),c.sub z,(AJ.trans (AJ.trans p v) o),a⟩
  ·intro a;refine Rc 3 ?_
   subst B
   exact Re 4 (Dq CH ED b EA (f.oj h) (DW a h))
def JL(n:Nat)(a1:AP)(x28:AO)(k2:Int->Option Bool):Nat->Int->Option Bool
 |0,_=>none
 |m+1,a=>cond (decide (a<(x28.Nets.length:Int))) ((AE x28.Nets a).bind fun b=>(GV n b 0 (wrap .i64 (((a1.Nets.length:Int))-1))).bind fun c=>cond (!c) (some false) (JL n a1 x28 k2 m (wrap .i64 (a+1)))) (k2 a)
def HH(n:Nat)(a1:AP)(k4:Int->Option Bool):Nat->Int->Option Bool
 |0,_=>none
 |m+1,a=>cond (decide (a<(a1.Ports.length:Int))) ((AE a1.Ports a).bind fun f=>(GV n f.Dir 1 2).bind fun e=>(cond (!e) (some true) ((AE a1.Ports a).bind fun d=>(GV n d.Net 0 (wrap .i64 (((a1.Nets.length:Int))-1))).bind fun c=>some (!c))).bind fun b=>cond b (some false) (HH n a1 k4 m (wrap .i64 (a+1)))) (k4 a)
def HQ(n:Nat)(a0:Ab)(a1:AP)(k0:Int->Option Bool):Nat->Int->Option Bool
 |0,_=>none
 |m+1,a=>cond (decide (a<(a1.Instances.length:Int))) ((AE a1.Instances a).bind fun b=>(GV n b.Cell 0 (wrap .i64 (((a0.Cells.length:Int))-1))).bind fun c=>(cond (!c) (some true) ((AE a0.Cells b.Cell).bind fun e=>some ((((b.Nets.length:Int)) !=((e.Pins.length:Int)))))).bind fun d=>cond d (some false) (JL n a1 b (fun f=>HQ n a0 a1 k0 m (wrap .i64 (a+1))) n 0)) (k0 a)
def sQ(n:Nat)(a0:Ab)(a1:AP):Option Bool:=HQ n a0 a1 (fun b=>HH n a1 (fun a=>some true) n 0) n 0
theorem W_5{t:Ab}{g:AP}{i:Bool}{G I J K:Value}(a:sQ n t g=some i)(hH:H<=w.heap.size)(L:AR C_Cell w H t.Cells G)(M:AR C_Instance w H g.Instances I)(V:AR At w H g.Nets J)(u:AR C_Port w H g.Ports K):
 Calls prog 126 [.agg #[G],.agg #[I,J,K]].toArray w (Ao (.bool i) w):=by
 unfold sQ at a;refine AA func126 z ntmps126 (Rc 2 (Ef z (AF z z) ?_));rintro _ x0 ⟨N,rfl,y0,z0,O,h⟩;have A0:=O.size;refine Ef z (AF z z) ?_;rintro _ W ⟨v,rfl,B0,C0,P,b⟩;have⟨Q,D0⟩:=Et O P;have h:=h.ext P;refine Ro 5 (Dq Dx GE b Cj (V.oj Q) (Ro 10 ?_));have⟨X,Y,a⟩:=Ud a;refine WC.loopD (fun j d wl=>∃k:Int,Kn 90 [(2,.p N),(3,.p v),(5,.i ((g.Nets.length:Int))),(6,.i k)] d∧AJ W wl∧HQ n t g X j k=some i) n ?_ ?_
 ·intro d c;exact⟨0,c.sub z,AJ.refl _,a⟩
 ·rintro j d Z ⟨k,c,x,a⟩;refine By c ?_;rcases j with _|j;exact Bx a;rw [HQ.eq_2]at a;have⟨p,E0⟩:=Et Q x;have⟨b,h⟩:=CB b h x;refine Rc 4 (Dq Bq DP b DV (M.oj p) (Ro 3 (Wc z a ?_ ?_)))
  ·intro a;refine Rc 6 (Fl Bq DP b (Ro 1 (Ix a (M.oj p) DV Ba ?_)));rintro y F0 a _ ⟨G0,H0,I0,rfl,J0,a0,b0⟩;obtain⟨c0,rfl,e⟩:=As a0;refine Yl z (CJ (us:=[.string y.Name,.i y.Cell,c0]) z Fs b0 Ba) (Ef z (AY z JM) ?_);rintro _ K0 ⟨d0,rfl,L0,M0,A,f⟩;have⟨e0,N0⟩:=Et p A;have⟨b,h,e⟩:=FS b h e A;refine Ef z (Cu z f Ba (AC z (AC z (AC (AD.one e) Aw))) z) ?_;rintro _ O0 ⟨B,f0⟩;have⟨C,P0⟩:=Eu e0 B;have⟨b,h,e⟩:=OS b h e B;have f:=f0;refine Ro 4 (BX Tryz.hm (Fq CY AI f (Rf CH ED h EA (L.oj C) (Qr 1 ?_))));have⟨Q0,g0,a⟩:=AH a;refine Ql z (Iz z DK fun w' hw'=>(Ly g0:)) ?_;refine Qr 2 (VD 13 [2,3,5,6,7] 46 33 a ?_ ?_)
   ·intro h0 a;refine Rf Cf Ad f Af e (Fq CH ED h (Fq CY AI f (Iq a (L.oj C) EA BA ?_)));rintro R0 S0 a _ ⟨T0,U0,V0,rfl,W0,i0,j0⟩;obtain⟨X0,Y0,Z0,rfl,k0,a1,b1⟩:=BV i0;refine KW Bk Cr j0 (Qy z (Bs z CU k0) (Qr 1 ?_));cases BQ a;exact Qr 1 Mm
   intro h0 a;refine QL.done fun l0 D=>?_;have⟨R,c1⟩:=Et C D;have⟨b,f,e⟩:=FS b f e D;refine Re 1 (Wt a R ?_);intro a;have⟨m0,n0,a⟩:=Ud a;refine Rc 8 (WC.loopD (fun l d wl=>∃q:Int,Kn 90 [(2,.p N),(3,.p v),(5,.i ((g.Nets.length:Int))),(6,.i k),(7,.p d0),(8,.i q)] d∧AJ l0 wl∧JL n g y m0 l q=some i) n ?_ ?_)
   ·intro d c;exact⟨0,c.sub z,AJ.refl _,a⟩
   ·rintro l d d1 ⟨q,c,r,a⟩;refine By c ?_;rcases l with _|l;exact Bx a;rw [JL.eq_2]at a;have⟨o0,e1⟩:=Et R r;have⟨b,f,e⟩:=FS b f e r;refine Rc 4 (Dq Cf Ad f Af e (Ro 3 (Wc z a ?_ ?_)))
    ·intro a;refine Rc 6 (Fl Cf Ad f (Ro 1 (Il a e Af Ap AI ?_)));rintro f1 a _;refine Ro 2 (Cs a o0 DK (fun _=>Ly) ?_);rintro g1 a h1 S ⟨p0,i1⟩;have b:=b.ext S;refine Ro 3 (Wt a p0 ?_);intro a;refine Rc 9 ?_;intro d c;exact⟨l,nr,(wrap .i64 (q+1)),c.sub z,(AJ.trans r S),a⟩
    ·intro a;refine Rc 3 ?_
     subst n0
     refine Re 9 ?_;intro d c;exact⟨j,nr,(wrap .i64 (k+1)),c.sub z,(AJ.trans (AJ.trans (Eu (AJ.trans x A) B).1 D) r),a⟩
  ·intro a;refine Rc 3 ?_
   subst Y
   refine Re 9 ?_;refine WC.loopD (fun m d wl=>∃o:Int,Kn 90 [(3,.p v),(5,.i ((g.Nets.length:Int))),(9,.i o)] d∧AJ Z wl∧HH n g (fun o=>(some true)) m o=some i) n ?_ ?_
   ·intro d c;exact⟨0,c.sub z,AJ.refl _,a⟩
   ·rintro m d j1 ⟨o,c,E,a⟩;refine By c ?_;rcases m with _|m;exact Bx a;rw [HH.eq_2]at a;have⟨s,k1⟩:=Et p E;have b:=b.ext E;refine Rc 4 (Dq Cm FE b Ex (u.oj s) (Ro 3 (Wf a s ?_)));intro a;refine Rc 6 (Fl Cm FE b (Ro 1 (Ix a (u.oj s) Ex CO ?_)));rintro l1 m1 a _ ⟨n1,o1,p1,rfl,q1,q0,r0⟩;obtain rfl:=Br q0;refine Fc EE AI r0 ?_;refine Cs a s DK (fun _=>Ly) ?_;rintro r1 a s1 T ⟨F,t1⟩;have b:=b.ext T;refine Ro 2 (Lz 11 [3,5,9] 89 78 a ?_ ?_)
    ·intro s0 a;refine Fl Cm FE b (Ro 1 (Ix a (u.oj F) Ex CO ?_));rintro u1 v1 a _ ⟨w1,x1,y1,rfl,z1,t0,u0⟩;obtain rfl:=Br t0;refine Fc ER AI u0 (Ro 2 ?_);refine Cs a F DK (fun _=>Ly) ?_;rintro A1 a B1 v0 ⟨C1,D1⟩;cases BQ a;exact Ro 1 (Ro 1 (DU v0))
    intro s0 a;intro E1 U;have⟨w0,F1⟩:=Et F U;refine Ro 2 (Wt a w0 ?_);intro a;refine Rc 9 ?_;intro d c;exact⟨m,nr,(wrap .i64 (o+1)),c.sub z,(AJ.trans (AJ.trans E T) U),a⟩
def Je(a0:List ByteArray)(i5:Int)(k2:Int->Option Bool):Nat->Int->Option Bool
 |0,_=>none
 |m+1,a=>cond (decide (a<i5)) ((AE a0 a).bind fun c=>(AE a0 i5).bind fun b=>cond (c.toList==b.toList) (some false) (Je a0 i5 k2 m (wrap .i64 (a+1)))) (k2 a)
def HR(n:Nat)(a0:List ByteArray)(k0:Int->Option Bool):Nat->Int->Option Bool
 |0,_=>none
 |m+1,a=>cond (decide (a<(a0.length:Int))) ((AE a0 a).bind fun c=>(mL n c).bind fun b=>cond (!b) (some false) (Je a0 a (fun d=>HR n a0 k0 m (wrap .i64 (a+1))) n 0)) (k0 a)
def jK(n:Nat)(a0:List ByteArray):Option Bool:=HR n a0 (fun a=>some true) n 0
theorem W_c{h:List ByteArray}{i:Bool}{j:Value}(a:jK n h=some i)(x:H<=w.heap.size)(k:AR At w H h j):
 Calls prog 127 [j].toArray w (Ao (.bool i) w):=by
 unfold jK at a;refine AA func127 z ntmps127 (Rc 12 (WC.loopD (fun f c wl=>∃d:Int,Kn 31 [(0,j),(3,.i d)] c∧AJ w wl∧HR n h (fun d=>(some true)) f d=some i) n ?_ ?_))
 ·intro c b;exact⟨0,b.sub z,AJ.refl _,a⟩
 ·rintro f c y ⟨d,b,e,a⟩;refine By b ?_;rcases f with _|f;exact Bx a;rw [HR.eq_2]at a;have A:=e.size;refine Rc 5 (Yl z (Bs z Cj (k.oj e)) (Ro 3 (Wf a e ?_)));intro a;refine Rc 9 (Il a (k.oj e) Cj GW Dl ?_);rintro B a _;refine Cs a e SD (fun _=>yB) ?_;rintro C a r s ⟨p,D⟩;refine Ro 3 (Wt a p ?_);intro a;have⟨t,u,a⟩:=Ud a;refine Rc 8 (WC.loopD (fun g c wl=>∃l:Int,Kn 31 [(0,j),(3,.i d),(4,.i l)] c∧AJ r wl∧Je h d t g l=some i) n ?_ ?_)
  ·intro c b;exact⟨0,b.sub z,AJ.refl _,a⟩
  ·rintro g c E ⟨l,b,m,a⟩;refine By b ?_;rcases g with _|g;exact Bx a;rw [Je.eq_2]at a;have⟨o,F⟩:=Et p m;refine Rc 8 (Wc z a ?_ ?_)
   ·intro a;refine Rc 5 (BX Tryz.hm (Qr 2 (OI a (k.oj o) Cj GW Dl ?_)));rintro G a _;refine Qr 2 (OI a (k.oj o) Cj GW Dl ?_);rintro I a _;refine Qr 1 ?_;refine QL.done fun J q=>?_;have⟨v,K⟩:=Et o q;refine Re 1 (Wt a v ?_);intro a;refine Rc 9 ?_;intro c b;exact⟨g,nr,(wrap .i64 (l+1)),b.sub z,(AJ.trans m q),a⟩
   ·intro a;refine Rc 3 ?_
    subst u
    refine Re 9 ?_;intro c b;exact⟨f,nr,(wrap .i64 (d+1)),b.sub z,(AJ.trans (AJ.trans e s) m),a⟩
def Fo(l147:List Int)(k8:Int->Option Bool):Nat->Int->Option Bool
 |0,_=>none
 |m+1,a=>cond (decide (a<(l147.length:Int))) ((AE l147 a).bind fun b=>cond (b !=1) (some false) (Fo l147 k8 m (wrap .i64 (a+1)))) (k8 a)
def HC(a1:AP)(k6:Int->(List Int)->Option Bool):Nat->Int->(List Int)->Option Bool
 |0,_,_=>none
 |m+1,a,b=>cond (decide (a<(a1.Ports.length:Int))) ((AE a1.Ports a).bind fun e=>cond (e.Dir==1) ((AE a1.Ports a).bind fun c=>(AE b c.Net).bind fun d=>(AE b c.Net).bind fun f=>HC a1 k6 m (wrap .i64 (a+1)) ((b.set (c.Net).toNat (wrap .i64 (d+1))))) (HC a1 k6 m (wrap .i64 (a+1)) b)) (k6 a b)
def LC(a1:AP)(k4:Int->(List Int)->Option Bool):Nat->Int->(List Int)->Option Bool
 |0,_,_=>none
 |m+1,b,a=>cond (decide (b<(a1.Instances.length:Int))) ((AE a1.Instances b).bind fun d=>(AE d.Nets (wrap .i64 (((d.Nets.length:Int))-1))).bind fun c=>(AE a c).bind fun e=>(AE a c).bind fun f=>LC a1 k4 m (wrap .i64 (b+1)) ((a.set (c).toNat (wrap .i64 (e+1))))) (k4 b a)
def JT(a1:AP)(k2:(List ByteArray)->Int->Option Bool):Nat->(List ByteArray)->Int->Option Bool
 |0,_,_=>none
 |m+1,c,a=>cond (decide (a<(a1.Ports.length:Int))) ((AE a1.Ports a).bind fun d=>(Dj c [d.Name] 16).bind fun b=>JT a1 k2 m b (wrap .i64 (a+1))) (k2 c a)
def LA(a1:AP)(k0:(List ByteArray)->Int->Option Bool):Nat->(List ByteArray)->Int->Option Bool
 |0,_,_=>none
 |m+1,b,a=>cond (decide (a<(a1.Instances.length:Int))) ((AE a1.Instances a).bind fun d=>(Dj b [d.Name] 16).bind fun c=>LA a1 k0 m c (wrap .i64 (a+1))) (k0 b a)
def rG(n:Nat)(a0:Ab)(a1:AP):Option Bool:=(sC n a0).bind fun o=>(cond ((((((!o)||(decide ((a1.Instances.length:Int)>14))))||(decide ((a1.Nets.length:Int)>30))))||(decide ((a1.Ports.length:Int)>8))) (some true) ((sQ n a0 a1).bind fun f=>some (!f))).bind fun i=>cond i (some false) (LA a1 (fun h t=>JT a1 (fun j u=>(jK n h).bind fun g=>(cond (!g) (some true) ((jK n j).bind fun k=>some (!k))).bind fun l=>(cond l (some true) ((jK n a1.Nets).bind fun e=>some (!e))).bind fun c=>cond c (some false) ((MY ((a1.Nets.length:Int)) 8).bind fun b=>LC a1 (fun s d=>HC a1 (fun r a=>Fo a (fun p=>some true) n 0) n 0 d) n 0 (List.replicate b 0))) n (([]:List ByteArray)) 0) n (([]:List ByteArray)) 0)
theorem W_2{n0:Ab}{h:AP}{m:Bool}{o0 r s t:Value}(a:rG n n0 h=some m)(hH:H<=w.heap.size)(p0:AR C_Cell w H n0.Cells o0)(u:AR C_Instance w H h.Instances r)(Q:AR At w H h.Nets s)(o:AR C_Port w H h.Ports t):
 Calls prog 92 [.agg #[o0],.agg #[r,s,t]].toArray w (Ao (.bool m) w):=by
 unfold rG at a;refine AA func92 z ntmps92 (Rc 2 (Ef z (AF z z) ?_));rintro _ s2 ⟨t2,rfl,u2,v2,q0,v⟩;have w2:=q0.size;refine Ef z (AF z z) ?_;rintro _ x2 ⟨g,rfl,y2,z2,r0,e⟩;have⟨s0,A2⟩:=Et q0 r0;have v:=v.ext r0;refine Ro 6 (Yl z (CC z Ir v Gh) ?_);refine Cs a s0 kW (fun _ f=>(W_f f (by omega) (p0.oj s0):)) ?_;rintro B2 a C2 c1 ⟨j,D2⟩;have⟨v,e⟩:=CB v e c1;refine Ro 2 (Rj 5 [2,3] 22 17 (decide ((h.Instances.length:Int)>14)) z ?_ ?_)
 ·exact Dq Bq DP e DV (u.oj j) (Ro 2 (DI))
 refine Ro 1 (Rj 5 [2,3] 28 23 (decide ((h.Nets.length:Int)>30)) z ?_ ?_)
 ·exact Dq Dx GE e Cj (Q.oj j) (Ro 2 (DI))
 refine Ro 1 (Rj 5 [2,3] 34 29 (decide ((h.Ports.length:Int)>8)) z ?_ ?_)
 ·exact Dq Cm FE e Ex (o.oj j) (Ro 2 (DI))
 refine Ro 1 (Lz 5 [3] 40 35 a ?_ ?_)
 ·intro d1 a;refine Yl z (CC z Ir v Gh) (Yl z (CC z DZ e DL) ?_);refine Cs a j nB (fun _ f=>(W_5 f (by omega) (p0.oj j) (u.oj j) (Q.oj j) (o.oj j):)) ?_;rintro E2 a F2 t0 ⟨G2,H2⟩;have e:=e.ext t0;cases BQ a;exact Ro 1 (Ro 1 (DU t0))
 intro d1 a;intro I2 u0;have⟨v0,J2⟩:=Et j u0;have e:=e.ext u0;refine Ro 2 (Wt a v0 ?_);intro a;refine Rc 4 (Ef z (BM At (([]:List ByteArray)) [] z Cj Ko z z trivial) ?_);rintro e1 f1 ⟨c0,w0,K2,L2,x0,g1⟩;have⟨h1,M2⟩:=Et v0 x0;have e:=e.ext x0;have y0:=BT w0;clear w0;have⟨i1,j1,a⟩:=La a;refine Ro 10 (WC.loopD (fun I c wl=>∃(R:List ByteArray) (k:Value) (S:Int),Kn 153 [(3,.p g),(5,k),(6,.i S)] c∧AJ w wl∧f1.heap.size<=wl.heap.size∧BK wl g [r,s,t] 50∧AB At wl (c0) (Iv 0 0) 9 R k∧Bd k c0 wl.heap.size∧Nb k g∧LA h i1 I R S=some m) n ?_ ?_)
 ·intro c b;exact⟨(([]:List ByteArray)),e1,0,b.sub z,h1,nr,e,g1,(fun p hg=>by have:=y0 p hg;omega),(Nb.of y0),a⟩
 ·rintro I c N2 ⟨R,k,S,b,T,O2,i,x,U,z0,a⟩;refine By b ?_;rcases I with _|I;exact Bx a;rw [LA.eq_2]at a;refine Rc 4 (Dq Bq DP i DV (u.oj T) (Ro 3 (Wc z a ?_ ?_)))
  ·intro a;refine Rc 6 (Fl Bq DP i (Ro 1 (Ix a (u.oj T) DV Ba ?_)));rintro A0 P2 a _ ⟨Q2,R2,S2,rfl,T2,k1,l1⟩;obtain⟨U2,rfl,V2⟩:=As k1;refine Fc HS Dl l1 (Ef z (BM At [A0.Name] [[.string A0.Name]] z Cj Ko z z ⟨z,trivial⟩) ?_);rintro W2 X2 ⟨Y2,B0,Z2,a3,C0,m1⟩;have⟨n1,b3⟩:=Et T C0;have⟨i,x⟩:=CB i x C0;have c3:=BT B0;clear B0;have⟨o1,p1,a⟩:=AH a;refine Ef z (BB (c:=At) z Cj Ko z z z z z x (by omega) (AB.slf m1 nr nr) p1) ?_;rintro q1 d3 ⟨D0,V⟩;have⟨r1,e3⟩:=Ge n1 V U;have s1:Nb _ g:=Gb V z0;have i:=BN.box V i z0;have t1:=MX V D0 U;refine Ro 10 ?_;intro c b;exact⟨I,nr,o1,q1,(wrap .i64 (S+1)),b.sub z,r1,(by omega),i,D0,(fun p hg=>by have:=t1 p hg;omega),s1,a⟩
  ·intro a;refine Rc 3 ?_
   subst j1
   refine Re 4 (Ef z (BM At (([]:List ByteArray)) [] z Cj Ko z z trivial) ?_);rintro u1 v1 ⟨E0,F0,f3,g3,G0,w1⟩;have⟨x1,h3⟩:=Et T G0;have⟨i,x⟩:=CB i x G0;have d0:=BT F0;clear F0;have⟨y1,z1,a⟩:=La a;refine Ro 10 (WC.loopD (fun J c wl=>∃(e0:List ByteArray) (y:Value) (W:Int),Kn 153 [(3,.p g),(5,k),(7,y),(8,.i W)] c∧AJ w wl∧v1.heap.size<=wl.heap.size∧BK wl g [r,s,t] 50∧AB At wl (E0) (Iv 0 0) 9 e0 y∧Bd y E0 wl.heap.size∧AB At wl (c0) (Iv 0 0) 9 R k∧Nb y g∧No y k∧JT h y1 J e0 W=some m) n ?_ ?_)
   ·intro c b;exact⟨(([]:List ByteArray)),u1,0,b.sub z,x1,nr,i,w1,(fun p hg=>by have:=d0 p hg;omega),x,(Nb.of d0),(No.of d0 U),a⟩
   ·rintro J c i3 ⟨e0,y,W,b,X,j3,d,A,H0,B,I0,A1,a⟩;refine By b ?_;rcases J with _|J;exact Bx a;rw [JT.eq_2]at a;refine Rc 4 (Dq Cm FE d Ex (o.oj X) (Ro 3 (Wc z a ?_ ?_)))
    ·intro a;refine Rc 6 (Fl Cm FE d (Ro 1 (Ix a (o.oj X) Ex CO ?_)));rintro J0 k3 a _ ⟨l3,m3,n3,rfl,o3,B1,C1⟩;obtain rfl:=Br B1;refine Fc HY Dl C1 (Ef z (BM At [J0.Name] [[.string J0.Name]] z Cj Ko z z ⟨z,trivial⟩) ?_);rintro p3 q3 ⟨r3,K0,s3,t3,L0,D1⟩;have⟨E1,u3⟩:=Et X L0;have⟨d,A,B⟩:=FS d A B L0;have v3:=BT K0;clear K0;have⟨F1,G1,a⟩:=AH a;refine Ef z (BB (c:=At) z Cj Ko z z z z z A (by omega) (AB.slf D1 nr nr) G1) ?_;rintro H1 w3 ⟨M0,C⟩;have⟨I1,x3⟩:=Ge E1 C H0;have J1:Nb _ g:=Gb C I0;have d:=BN.box C d I0;have N0:=A1;have K1:=Gn C N0 U;have B:=BN.ownF C B N0;have L1:=MX C M0 H0;refine Ro 10 ?_;intro c b;exact⟨J,nr,F1,H1,(wrap .i64 (W+1)),b.sub z,I1,(by omega),d,M0,(fun p hg=>by have:=L1 p hg;omega),B,J1,K1,a⟩
    ·intro a;refine Rc 3 ?_
     subst z1
     refine Re 6 ?_;refine Cs a X Sg (fun _ f=>(W_c f nr (AB.slf B (Nat.zero_le _) nr):)) ?_;rintro y3 a z3 M1 ⟨O0,A3⟩;have⟨d,A⟩:=CB d A M1;refine Ro 2 (Lz 4 [3] 82 78 a ?_ ?_)
     ·intro N1 a;refine Ro 1 (Cs a O0 Sg (fun _ f=>(W_c f nr (AB.slf A (Nat.zero_le _) nr):)) ?_);rintro B3 a C3 P0 ⟨D3,E3⟩;have d:=d.ext P0;cases BQ a;exact Ro 1 (Ro 1 (DU P0))
     intro N1 a;intro F3 Q0;have⟨f0,G3⟩:=Et O0 Q0;have d:=d.ext Q0;refine Ro 1 (Lz 5 [3] 88 83 a ?_ ?_)
     ·intro O1 a;refine Fl Dx GE d ?_;refine Cs a f0 Sg (fun _ f=>(W_c f (by omega) (Q.oj f0):)) ?_;rintro H3 a I3 R0 ⟨J3,K3⟩;have d:=d.ext R0;cases BQ a;exact Ro 1 (Ro 1 (DU R0))
     intro O1 a;intro L3 S0;have⟨g0,M3⟩:=Et f0 S0;have d:=d.ext S0;refine Ro 2 (Wt a g0 ?_);intro a;refine Rc 4 (Dq Dx GE d Cj (Q.oj g0) ?_);have⟨P1,Q1,a⟩:=AH a;refine Ef z (CW (c:=(AL .i64)) (z:=0) z Af GU z z z Q1 z z (fun _=>z)) ?_;rintro K R1 ⟨T0,U0,N3,O3,V0,S1⟩;have⟨T1,P3⟩:=Et g0 V0;have d:=d.ext V0;have Y:=BT U0;clear U0;have⟨U1,V1,a⟩:=La a;refine Ro 10 (WC.loopD (fun L c wl=>∃(Z:Int) (M:List Int),Kn 153 [(3,.p g),(9,K),(10,.i Z)] c∧AJ w wl∧R1.heap.size<=wl.heap.size∧BK wl g [r,s,t] 50∧AB (AL .i64) wl (T0) (Iv 0 0) 2 M K∧LC h U1 L Z M=some m) n ?_ ?_)
     ·intro c b;exact⟨0,(List.replicate P1 0),b.sub z,T1,nr,d,S1,a⟩
     ·rintro L c W1 ⟨Z,M,b,a0,Q3,D,b0,a⟩;refine By b ?_;rcases L with _|L;exact Bx a;rw [LC.eq_2]at a;refine Rc 4 (Dq Bq DP D DV (u.oj a0) (Ro 3 (Wc z a ?_ ?_)))
      ·intro a;refine Rc 6 (Fl Bq DP D (Ro 1 (Ix a (u.oj a0) DV Ba ?_)));rintro R3 S3 a _ ⟨T3,U3,V3,rfl,W3,X1,Y1⟩;obtain⟨X3,rfl,W0⟩:=As X1;refine Fc Cf Ad Y1 (Ro 7 (Yl z (Bs z Af W0) (Ro 1 (Il a W0 Af Ap AI ?_))));rintro Z1 a _;refine VU a b0 Af Ap AI ?_;rintro h0 a _;refine Ro 1 (Io a b0 Af Ap ?_);rintro Y3 a2 a _ ⟨Z3,a4,rfl,i0,X0,b2⟩;have c2:=X0;obtain rfl:=X0;refine Ef z (Ag (c:=(AL .i64)) (us':=[.i (wrap .i64 (h0+1))]) (y':=wrap .i64 (h0+1)) 0 _ z z z b0 i0 a2 z Ap z c2 b2 z z z (fun j0 f=>absurd f.2 (Nat.not_lt_zero j0))) ?_;rintro _ b4 ⟨Y0,d2⟩;have⟨e2,c4⟩:=Eu a0 Y0 (by have:=Y _ i0;omega);have D:=D.upd Y0 (by have:=Y _ i0;omega);refine Ro 9 ?_;intro c b;exact⟨L,nr,(wrap .i64 (Z+1)),((M.set (Z1).toNat (wrap .i64 (h0+1)))),b.sub z,e2,(by omega),D,d2,a⟩
      ·intro a;refine Rc 3 ?_
       subst V1
       refine Re 9 ?_;have⟨f2,g2,a⟩:=La a;refine WC.loopD (fun E c wl=>∃(N:Int) (F:List Int),Kn 153 [(3,.p g),(9,K),(12,.i N)] c∧AJ w wl∧W1.heap.size<=wl.heap.size∧BK wl g [r,s,t] 50∧AB (AL .i64) wl (T0) (Iv 0 0) 2 F K∧HC h f2 E N F=some m) n ?_ ?_
       ·intro c b;exact⟨0,M,b.sub z,a0,nr,D,b0,a⟩
       ·rintro E c h2 ⟨N,F,b,G,d4,q,l,a⟩;refine By b ?_;rcases E with _|E;exact Bx a;rw [HC.eq_2]at a;refine Rc 4 (Dq Cm FE q Ex (o.oj G) (Ro 3 (Wc z a ?_ ?_)))
        ·intro a;refine Rc 6 (Fl Cm FE q (Ro 1 (Ix a (o.oj G) Ex CO ?_)));rintro e4 f4 a _ ⟨g4,h4,i4,rfl,j4,i2,j2⟩;obtain rfl:=Br i2;refine Fc EE AI j2 (Ro 3 (Wc z a ?_ ?_))
         ·intro a;refine Rc 2 (Fl Cm FE q (Ro 1 (Ix a (o.oj G) Ex CO ?_)));rintro k2 k4 a _ ⟨l4,m4,n4,rfl,o4,l2,m2⟩;obtain rfl:=Br l2;refine Fc ER AI m2 (VU a l Af Ap AI ?_);rintro k0 a _;refine Ro 1 (Io a l Af Ap ?_);rintro p4 n2 a _ ⟨q4,r4,rfl,l0,Z0,o2⟩;have p2:=Z0;obtain rfl:=Z0;refine Ef z (Ag (c:=(AL .i64)) (us':=[.i (wrap .i64 (k0+1))]) (y':=wrap .i64 (k0+1)) 0 _ z z z l l0 n2 z Ap z p2 o2 z z z (fun j0 f=>absurd f.2 (Nat.not_lt_zero j0))) ?_;rintro _ s4 ⟨a1,q2⟩;have⟨r2,t4⟩:=Eu G a1 (by have:=Y _ l0;omega);have q:=q.upd a1 (by have:=Y _ l0;omega);refine Ro 9 ?_;intro c b;exact⟨E,nr,(wrap .i64 (N+1)),((F.set (k2.Net).toNat (wrap .i64 (k0+1)))),b.sub z,r2,(by omega),q,q2,a⟩
         ·intro a;refine Rc 9 ?_;intro c b;exact⟨E,nr,(wrap .i64 (N+1)),F,b.sub z,G,(by omega),q,l,a⟩
        ·intro a;refine Rc 3 ?_
         subst g2
         refine Re 9 ?_;refine WC.loopD (fun O c wl=>∃P:Int,Kn 153 [(9,K),(13,.i P)] c∧AJ h2 wl∧Fo F (fun P=>(some true)) O P=some m) n ?_ ?_
         ·intro c b;exact⟨0,b.sub z,AJ.refl _,a⟩
         ·rintro O c u4 ⟨P,b,m0,a⟩;refine By b ?_;rcases O with _|O;exact Bx a;rw [Fo.eq_2]at a;have⟨b1,v4⟩:=Et G m0;have l:=l.ext m0;refine Rc 5 (Yl z (Mg z Af l) (Ro 3 (Wf a b1 ?_)));intro a;refine Rc 8 (VU a l Af Ap AI ?_);rintro w4 a _;refine Ro 3 (Wt a b1 ?_);intro a;refine Rc 9 ?_;intro c b;exact⟨O,nr,(wrap .i64 (P+1)),b.sub z,m0,a⟩
def Km(n:Nat)(a0:Ar)(k2:Int->Option Bool):Nat->Int->Option Bool
 |0,_=>none
 |m+1,a=>cond (decide (a<(a0.Sink.length:Int))) ((AE a0.Sink a).bind fun c=>(GV n c 0 (wrap .i64 (((a0.Parent.length:Int))-1))).bind fun b=>cond (!b) (some false) (Km n a0 k2 m (wrap .i64 (a+1)))) (k2 a)
def Ks(n:Nat)(a0:Ar)(k0:Int->Option Bool):Nat->Int->Option Bool
 |0,_=>none
 |m+1,a=>cond (decide (a<(a0.Parent.length:Int))) ((AE a0.Cap a).bind fun f=>(GV n f 0 500).bind fun g=>(cond (!g) (some true) ((AE a0.Res a).bind fun c=>(GV n c 0 1000).bind fun j=>some (!j))).bind fun k=>cond k (some false) ((cond (a==0) ((AE a0.Parent a).bind fun l=>(cond (l !=(-1)) (some true) ((AE a0.Res a).bind fun o=>some ((o !=0)))).bind fun e=>some e) (some false)).bind fun i=>(cond i (some true) ((cond (decide (a>0)) ((AE a0.Parent a).bind fun d=>(GV n d 0 (wrap .i64 (a-1))).bind fun h=>some (!h)) (some false)).bind fun b=>some b)).bind fun b=>cond b (some false) (Ks n a0 k0 m (wrap .i64 (a+1))))) (k0 a)
def qT(n:Nat)(a0:Ar)(a1:Int):Option Bool:=cond ((((((((decide ((a0.Parent.length:Int)<1))||(decide ((a0.Parent.length:Int)>8))))||((((a0.Res.length:Int)) !=((a0.Parent.length:Int))))))||((((a0.Cap.length:Int)) !=((a0.Parent.length:Int))))))||((((a0.Sink.length:Int)) !=a1))) (some false) (Ks n a0 (fun a=>Km n a0 (fun b=>some true) n 0) n 0)
theorem W_t{c:Ar}{o:Int}{k:Bool}{B C D E:Value}(a:qT n c o=some k)(X:H<=w.heap.size)(p:AR (AL .i64) w H c.Parent B)(q:AR (AL .i64) w H c.Res C)(F:AR (AL .i64) w H c.Cap D)(r:AR (AL .i64) w H c.Sink E):
 Calls prog 93 [.agg #[B,C,D,E],.i o].toArray w (Ao (.bool k) w):=by
 unfold qT at a;refine AA func93 z ntmps93 (Rc 2 (Ef z (AF z z) ?_));rintro _ L ⟨G,rfl,Y,Z,f,b⟩;have a0:=f.size;refine Ro 5 (Dq EB Ad b Af (p.oj f) (Ro 9 (jT 3 [1,2,5] 16 13 ?_)));refine Ro 1 (Rj 6 [1,2,5] 23 17 ((((c.Res.length:Int)) !=((c.Parent.length:Int)))) z ?_ ?_)
 ·exact Dq EG Ad b Af (q.oj f) (Ro 3 (DI))
 refine Ro 1 (Rj 6 [1,2,5] 30 24 ((((c.Cap.length:Int)) !=((c.Parent.length:Int)))) z ?_ ?_)
 ·exact Dq FA Ad b Af (F.oj f) (Ro 3 (DI))
 refine Ro 1 (Rj 6 [2,5] 37 31 ((((c.Sink.length:Int)) !=o)) z ?_ ?_)
 ·exact Dq EC Ad b Af (r.oj f) (Ro 3 (DI))
 refine Ro 2 (Wt a f ?_);intro a;have⟨M,N,a⟩:=Ud a;refine Rc 9 (WC.loopD (fun h e wl=>∃l:Int,Kn 108 [(2,.p G),(5,.i ((c.Parent.length:Int))),(6,.i l)] e∧AJ L wl∧Ks n c M h l=some k) n ?_ ?_)
 ·intro e d;exact⟨0,d.sub z,AJ.refl _,a⟩
 ·rintro h e O ⟨l,d,s,a⟩;refine By d ?_;rcases h with _|h;exact Bx a;rw [Ks.eq_2]at a;have⟨t,b0⟩:=Et f s;have b:=b.ext s;refine Rc 8 (Wc z a ?_ ?_)
  ·intro a;refine Rc 7 (Fl FA Ad b (Ro 1 (Il a (F.oj t) Af Ap AI ?_)));rintro c0 a _;refine Cs a t DK (fun _=>Ly) ?_;rintro d0 a e0 I ⟨u,f0⟩;have b:=b.ext I;refine Ro 2 (Lz 8 [2,5,6] 58 50 a ?_ ?_)
   ·intro P a;refine Fl EG Ad b (Ro 1 (Il a (q.oj u) Af Ap AI ?_));rintro g0 a _;refine Cs a u DK (fun _=>Ly) ?_;rintro h0 a i0 J ⟨j0,k0⟩;have b:=b.ext J;cases BQ a;exact Ro 1 (Ro 1 (DU J))
   intro P a;intro l0 v;have⟨g,m0⟩:=Et u v;have b:=b.ext v;refine Ro 2 (Wt a g ?_);intro a;refine Rc 7 (JB 15 [2,5,6] 76 61 a ?_ ?_)
   ·intro Q a;refine Fl EB Ad b (Ro 1 (Il a (p.oj g) Af Ap AI ?_));rintro n0 a _;refine Ro 2 (Pi 7 [2,5,6,61,62,63,64,65,66,67,68] 75 68 a ?_ ?_)
    ·intro R a;refine Fl EG Ad b (Ro 1 (Il a (q.oj g) Af Ap AI ?_));rintro o0 a _;cases BQ a;exact Ro 1 (Ro 1 (DI))
    intro R a;cases BQ a;exact Ro 1 (DI)
   intro Q a;refine Ro 1 (Lz 14 [2,5,6] 91 77 a ?_ ?_)
   ·intro S a;refine Ro 3 (FO 10 [2,5,6,77,78,79,80] 90 80 a ?_ ?_)
    ·intro T a;refine Fl EB Ad b (Ro 1 (Il a (p.oj g) Af Ap AI ?_));rintro p0 a _;refine Ro 2 (Cs a g DK (fun _=>Ly) ?_);rintro q0 a r0 K ⟨s0,t0⟩;have b:=b.ext K;cases BQ a;exact Ro 1 (Ro 1 (DU K))
    intro T a;intro u0 x;have⟨v0,w0⟩:=Et g x;have b:=b.ext x;cases BQ a;exact Ro 1 (DU x)
   intro S a;intro x0 y;have⟨U,y0⟩:=Et g y;have b:=b.ext y;refine Ro 2 (Wt a U ?_);intro a;refine Rc 9 ?_;intro e d;exact⟨h,nr,(wrap .i64 (l+1)),d.sub z,(AJ.trans (AJ.trans (AJ.trans s I) v) y),a⟩
  ·intro a;refine Rc 3 ?_
   subst N
   refine Re 9 ?_;refine WC.loopD (fun i e wl=>∃j:Int,Kn 108 [(2,.p G),(5,.i ((c.Parent.length:Int))),(7,.i j)] e∧AJ O wl∧Km n c (fun j=>(some true)) i j=some k) n ?_ ?_
   ·intro e d;exact⟨0,d.sub z,AJ.refl _,a⟩
   ·rintro i e z0 ⟨j,d,A,a⟩;refine By d ?_;rcases i with _|i;exact Bx a;rw [Km.eq_2]at a;have⟨m,A0⟩:=Et t A;have b:=b.ext A;refine Rc 4 (Dq EC Ad b Af (r.oj m) (Ro 3 (Wf a m ?_)));intro a;refine Rc 6 (Fl EC Ad b (Ro 1 (Il a (r.oj m) Af Ap AI ?_)));rintro B0 a _;refine Ro 2 (Cs a m DK (fun _=>Ly) ?_);rintro C0 a D0 V ⟨W,E0⟩;refine Ro 3 (Wt a W ?_);intro a;refine Rc 9 ?_;intro e d;exact⟨i,nr,(wrap .i64 (j+1)),d.sub z,(AJ.trans A V),a⟩
def Gw(a1:Int)(r25:List Ay)(k0:(List Int)->Int->Option (List Int)):Nat->(List Int)->Int->Option (List Int)
 |0,_,_=>none
 |m+1,b,a=>cond (decide (a<(r25.length:Int))) ((AE r25 a).bind fun e=>(cond (e.net_==a1) ((AE r25 a).bind fun c=>some (!c.drives_)) (some false)).bind fun d=>cond d ((Dj b [a] 8).bind fun f=>Gw a1 r25 k0 m f (wrap .i64 (a+1))) (Gw a1 r25 k0 m b (wrap .i64 (a+1)))) (k0 b a)
def Wm(n:Nat)(a0:AP)(a1:Int):Option (List Int):=(kY n a0).bind fun a=>Gw a1 a (fun b c=>some b) n (([]:List Int)) 0
theorem AcM{j:AP}{k:Int}{o:List Int}{u v x:Value}(a:Wm n j k=some o)(hH:H<=w.heap.size)(Q:AR C_Instance w H j.Instances u)(R:AR At w H j.Nets v)(S:AR C_Port w H j.Ports x):
 Calls prog 94 [.agg #[u,v,x],.i k].toArray w (DA fun T y=>∃A,T=A∧AB (AL .i64) y w.heap.size (Iv 0 0) 2 o A∧AJ w y):=by
 unfold Wm at a;refine AA func94 z ntmps94 (Rc 2 (Ef z (AF z z) ?_));rintro _ m0 ⟨n0,rfl,o0,p0,B,p⟩;have q0:=B.size;refine Ro 5 (Ef z (BM (AL .i64) (([]:List Int)) [] z Af GU z z trivial) ?_);rintro U V ⟨C,D,r0,s0,E,q⟩;have⟨l,t0⟩:=Et B E;have p:=p.ext E;have F:=BT D;clear D;refine Ro 5 (Yl z (CC z DZ p DL) ?_);refine Cg a XN (fun _ W=>(W_6 W (by omega) (Q.oj l) (R.oj l) (S.oj l):)) ?_;rintro G a r X ⟨_,rfl,I,J⟩;have⟨Y,u0⟩:=Et l J;have q:=q.ext J;have K:=AB.blk I;refine Ro 10 (WC.loopD (fun d g wl=>∃(e:List Int) (f:Value) (c:Int),Kn 37 [(1,.i k),(5,f),(6,r),(7,.i c)] g∧AJ w wl∧X.heap.size<=wl.heap.size∧AB (AL .i64) wl (C) (Iv 0 0) 2 e f∧Bd f C wl.heap.size∧AB C_l05Place wl (V.heap.size) (Iv 0 0) 187 G r∧No f r∧Gw k G (fun e c=>(some e)) d e c=some o) n ?_ ?_)
 ·intro g hK;exact⟨(([]:List Int)),U,0,hK.sub z,Y,nr,q,(fun h hg=>by have:=F h hg;omega),I,(No.of F K),a⟩
 ·rintro d g v0 ⟨e,f,c,hK,s,w0,i,t,b,L,a⟩;refine By hK ?_;rcases d with _|d;exact Bx a;rw [Gw.eq_2]at a;refine Rc 5 (Yl z (Mg z Ik b) (Ro 3 (Wc z a ?_ ?_)))
  ·intro a;refine Rc 8 (Io a b Ik Pe ?_);rintro x0 y0 a _ ⟨z0,A0,rfl,B0,Z,a0⟩;obtain rfl:=ET Z;refine Fc ZE AI a0 (Ro 3 (JB 7 [1,5,6,7] 31 24 a ?_ ?_))
   ·intro b0 a;refine Ro 2 (Io a b Ik Pe ?_);rintro C0 D0 a _ ⟨E0,F0,rfl,G0,c0,d0⟩;obtain rfl:=ET c0;refine Fc Wd Ed d0 (Ro 1 ?_);cases BQ a;exact Ro 1 (DI)
   intro b0 a;refine Ro 2 (Wc z a ?_ ?_)
   ·intro a;refine Rc 3 (Ef z (BM (AL .i64) [c] [[.i c]] z Af GU z z ⟨z,trivial⟩) ?_);rintro H0 I0 ⟨J0,M,K0,L0,N,e0⟩;have⟨f0,M0⟩:=Et s N;have⟨i,b⟩:=CB i b N;have N0:=BT M;clear M;have⟨g0,h0,a⟩:=AH a;refine Ef z (BB (c:=(AL .i64)) z Af GU z z z z z i (by omega) (AB.slf e0 nr nr) h0) ?_;rintro i0 O0 ⟨O,m⟩;have⟨j0,P0⟩:=Ge f0 m t;have P:=L;have k0:=Gn m P K;have b:=BN.ownF m b P;have l0:=MX m O t;refine Ro 10 ?_;intro g hK;exact⟨d,nr,g0,i0,(wrap .i64 (c+1)),hK.sub z,j0,(by omega),O,(fun h hg=>by have:=l0 h hg;omega),b,k0,a⟩
   ·intro a;refine Rc 9 ?_;intro g hK;exact⟨d,nr,e,f,(wrap .i64 (c+1)),hK.sub z,s,(by omega),i,(fun h hg=>by have:=t h hg;omega),b,L,a⟩
  ·intro a;cases BQ a;exact Rc 12 (Ne z z ⟨_,z,_,z,AB.base i,s⟩)
def Hg(n:Nat)(a0:AQ)(k0:Int->Option Bool):Nat->Int->Option Bool
 |0,_=>none
 |m+1,a=>cond (decide (a<(a0.Wires.length:Int))) ((AE a0.Wires a).bind fun d=>(Wm n a0.Design a).bind fun c=>(qT n d ((c.length:Int))).bind fun b=>cond (!b) (some false) (Hg n a0 k0 m (wrap .i64 (a+1)))) (k0 a)
def YT(n:Nat)(a0:AQ):Option Bool:=(rG n a0.Library a0.Design).bind fun a=>cond ((!a)||((((a0.Wires.length:Int)) !=((a0.Design.Nets.length:Int))))) (some false) (Hg n a0 (fun b=>some true) n 0)
theorem zR{c:AQ}{q:Bool}{l e f g C:Value}(a:YT n c=some q)(hH:H<=w.heap.size)(J:AR C_Cell w H c.Library.Cells l)(D:AR C_Instance w H c.Design.Instances e)(r:AR At w H c.Design.Nets f)(E:AR C_Port w H c.Design.Ports g)(s:AR C_Wire w H c.Wires C):
 Calls prog 52 [.agg #[l,e,f,g,C]].toArray w (Ao (.bool q) w):=by
 unfold YT at a;refine AA func52 z ntmps52 (Rc 2 (Ef z (AF z z) ?_));rintro _ b0 ⟨K,rfl,c0,d0,h,b⟩;have e0:=h.size;refine Ro 6 (Yl z (BF z De) (Yl z (CJ (us:=[l]) z Ir (AM.sub (BK.cells b) 0 1:AM _ _ _ [l]) Gh) (Yl z (BF z Bl) (Yl z (CJ (us:=[e,f,g]) z DZ (AM.sub (BK.cells b) 1 3:AM _ _ _ [e,f,g]) DL) ?_))));refine Cs a h sO (fun _ L=>(W_2 L (by omega) (J.oj h) (D.oj h) (r.oj h) (E.oj h):)) ?_;rintro f0 a M N ⟨m,g0⟩;have b:=b.ext N;refine Ro 2 (Rj 9 [1] 19 10 ((((c.Wires.length:Int)) !=((c.Design.Nets.length:Int)))) z ?_ ?_)
 ·exact Dq DO GD b Fp (s.oj m) (Yl z (BF z Bl) (Yl z (BF z Dx) (Yl z (Di z GE b z) (Yl z (Bs z Cj (r.oj m)) (Ro 2 (DI))))))
 refine Ro 2 (Wt a m ?_);intro a;refine Rc 9 (WC.loopD (fun i o wl=>∃j:Int,Kn 39 [(1,.p K),(3,.i j)] o∧AJ M wl∧Hg n c (fun j=>(some true)) i j=some q) n ?_ ?_)
 ·intro o hK;exact⟨0,hK.sub z,AJ.refl _,a⟩
 ·rintro i o h0 ⟨j,hK,t,a⟩;refine By hK ?_;rcases i with _|i;exact Bx a;rw [Hg.eq_2]at a;have⟨u,i0⟩:=Et m t;have b:=b.ext t;refine Rc 4 (Dq DO GD b Fp (s.oj u) (Ro 3 (Wf a u ?_)));intro a;have⟨j0,O,a⟩:=AH a;have⟨k0,P,a⟩:=AH a;have⟨l0,Q,a⟩:=AH a;refine Rc 5 ?_;refine CZ 10 Tryz.hm fun F v d=>?_;have⟨k,m0⟩:=Et u v;have b:=b.ext v;refine BO 0 d z (BF z DO) (BO 1 d z (Di z GD b z) (EP d [2] (GS 3 d z (EJ z Fp CT (s.oj k) O) ?_)));rintro _ ⟨n0,o0,p0,rfl,q0,R,S⟩;obtain⟨T,U,V,W,rfl,x,y,A,B⟩:=Cp R;refine BO 4 d z (CJ (us:=[T,U,V,W]) z HE S CT) (BO 5 d z (BF z Bl) (BO 6 d z (CJ (us:=[e,f,g]) z DZ (AM.sub (BK.cells b) 1 3:AM _ _ _ [e,f,g]) DL) (EP d [7] (Ka 8 z (FW z oO (AcM P (by omega) (D.oj k) (r.oj k) (E.oj k):)) ?_))));rintro r0 X ⟨_,rfl,G,p⟩;have Y:AJ F X:=AJ.trans (AJ.refl F) p;have⟨Z,s0⟩:=Et k p;have⟨x,y,A,B⟩:=JX x y A B p;have t0:=AB.blk G;refine⟨Y,?_⟩;refine HL.shrink (BO 9 d z (Mg z Af G) (KD z (Ef z (FW z uC (W_t Q (by omega) x y A B:)) ?_)));rintro _ u0 ⟨rfl,I⟩;have⟨a0,v0⟩:=Et Z I;refine Tr 1 (TL.noPan (l:=[]) (Re 1 (Wt a a0 ?_)));intro a;refine Rc 9 ?_;intro o hK;exact⟨i,nr,(wrap .i64 (j+1)),hK.sub z,(AJ.trans (AJ.trans (AJ.trans t v) p) I),a⟩
def Vh(n:Nat)(a0:AV):Option Bool:=(GV n a0.Early (-1000000000) 1000000000).bind fun c=>(cond c ((GV n a0.Late (-1000000000) 1000000000).bind fun b=>some b) (some false)).bind fun a=>some ((a&&(decide (a0.Early<=a0.Late))))
theorem wH{c:AV}{d:Bool}(a:Vh n c=some d):
 Calls prog 95 [.agg #[.i c.Early,.i c.Late]].toArray w (Ao (.bool d) w):=by
 unfold Vh at a;refine AA func95 z ntmps95 (Rc 2 (Ef z (AF z z) ?_));rintro _ l ⟨H,rfl,m,o,e,b⟩;have p:=e.size;refine Ro 5 (Fl Bb AI b ?_);refine Cs a e DK (fun _=>Ly) ?_;rintro q a r i ⟨f,s⟩;have b:=b.ext i;refine Ro 1 (FO 4 [1] 10 6 a ?_ ?_)
 ·intro j a;refine Fl BW AI b ?_;refine Cs a f DK (fun _=>Ly) ?_;rintro t a u g ⟨v,x⟩;have b:=b.ext g;cases BQ a;exact Ro 1 (DU g)
 intro j a;intro y h;have⟨k,A⟩:=Et f h;have b:=b.ext h;refine Ro 1 (Iu 6 [] 17 11 (decide (c.Early<=c.Late)) z ?_ ?_)
 ·exact Fl Bb AI b (Fl BW AI b (Ro 2 (DI)))
 exact DW a k
def dX(n:Nat)(a0:AV):Option Bool:=some (((((decide (a0.Early>=0))&&(decide (a0.Early<=a0.Late))))&&(decide (a0.Late<=1000000))))
theorem yU{a:AV}{c:Bool}(d:dX n a=some c):
 Calls prog 96 [.agg #[.i a.Early,.i a.Late]].toArray w (Ao (.bool c) w):=by
 unfold dX at d;refine AA func96 z ntmps96 (Rc 2 (Ef z (AF z z) ?_));rintro _ f ⟨g,rfl,h,i,e,b⟩;have H:=e.size;refine Ro 5 (Fl Bb AI b (Ro 2 (Iu 6 [1] 12 6 (decide (a.Early<=a.Late)) z ?_ ?_)))
 ·exact Fl Bb AI b (Fl BW AI b (Ro 2 (DI)))
 refine Ro 1 (Iu 4 [] 17 13 (decide (a.Late<=1000000)) z ?_ ?_)
 ·exact Fl BW AI b (Ro 2 (DI))
 exact DW d e
def Ii(n:Nat)(a1:Ac)(k0:Int->Option Bool):Nat->Int->Option Bool
 |0,_=>none
 |m+1,a=>cond (decide (a<(a1.Reached.length:Int))) ((AE a1.Arrival a).bind fun f=>(Vh n f).bind fun d=>(cond (!d) (some true) ((AE a1.Slew a).bind fun k=>(dX n k).bind fun e=>some (!e))).bind fun j=>(cond j (some true) ((AE a1.Reached a).bind fun g=>(cond (!g) ((AE a1.Arrival a).bind fun c=>(cond (!((c.Early==0)&&(c.Late==0))) (some true) ((AE a1.Slew a).bind fun b=>some ((!((b.Early==0)&&(b.Late==0)))))).bind fun i=>some i) (some false)).bind fun l=>some l)).bind fun h=>cond h (some false) (Ii n a1 k0 m (wrap .i64 (a+1)))) (k0 a)
def Zw(n:Nat)(a0:Int)(a1:Ac):Option Bool:=cond (((((((a1.Reached.length:Int)) !=a0))||((((a1.Arrival.length:Int)) !=a0))))||((((a1.Slew.length:Int)) !=a0))) (some false) (Ii n a1 (fun a=>some true) n 0)
theorem zU{h:Int}{c:Ac}{l:Bool}{t u v:Value}(a:Zw n h c=some l)(T:H<=w.heap.size)(m:AR BH w H c.Reached t)(o:AR C_Span w H c.Arrival u)(p:AR C_Span w H c.Slew v):
 Calls prog 53 [.i h,.agg #[t,u,v]].toArray w (Ao (.bool l) w):=by
 unfold Zw at a;refine AA func53 z ntmps53 (Rc 2 (Ef z (AF z z) ?_));rintro _ E ⟨F,rfl,U,V,d,b⟩;have W:=d.size;refine Ro 6 (Dq EL Gy b GA (m.oj d) (Ro 3 (Rj 6 [0,3] 17 11 ((((c.Arrival.length:Int)) !=h)) z ?_ ?_)))
 ·exact Dq CG CV b Da (o.oj d) (Ro 3 (DI))
 refine Ro 1 (Rj 6 [3] 24 18 ((((c.Slew.length:Int)) !=h)) z ?_ ?_)
 ·exact Dq Du CV b Da (p.oj d) (Ro 3 (DI))
 refine Ro 2 (Wt a d ?_);intro a;refine Rc 9 (WC.loopD (fun e i wl=>∃f:Int,Kn 74 [(3,.p F),(5,.i f)] i∧AJ E wl∧Ii n c (fun f=>(some true)) e f=some l) n ?_ ?_)
 ·intro i g;exact⟨0,g.sub z,AJ.refl _,a⟩
 ·rintro e i X ⟨f,g,q,a⟩;refine By g ?_;rcases e with _|e;exact Bx a;rw [Ii.eq_2]at a;have⟨j,Y⟩:=Et d q;have b:=b.ext q;refine Rc 4 (Dq EL Gy b GA (m.oj j) (Ro 3 (Wf a j ?_)));intro a;refine Rc 6 (Fl CG CV b (Ro 1 (Ix a (o.oj j) Da BY ?_)));rintro x Z a _ ⟨a0,b0,c0,rfl,d0,G,I⟩;obtain rfl:=Aq G;refine Yl z (CJ (us:=[.i x.Early,.i x.Late]) z FF I BY) ?_;refine Cs a j qY (fun _=>wH) ?_;rintro e0 a f0 y ⟨r,g0⟩;have b:=b.ext y;refine Ro 2 (Lz 8 [3,5] 47 39 a ?_ ?_)
  ·intro J a;refine Fl Du CV b (Ro 1 (Ix a (p.oj r) Da BY ?_));rintro A h0 a _ ⟨i0,j0,k0,rfl,l0,K,L⟩;obtain rfl:=Aq K;refine Yl z (CJ (us:=[.i A.Early,.i A.Late]) z FF L BY) ?_;refine Cs a r qO (fun _=>yU) ?_;rintro m0 a n0 B ⟨o0,p0⟩;have b:=b.ext B;cases BQ a;exact Ro 1 (Ro 1 (DU B))
  intro J a;intro q0 s;have⟨k,r0⟩:=Et r s;have b:=b.ext s;refine Ro 1 (Pi 25 [3,5] 73 48 a ?_ ?_)
  ·intro M a;refine Fl EL Gy b (Ro 1 (Il a (m.oj k) GA Ku Ed ?_));rintro s0 a _;refine Ro 2 (JB 17 [3,5,48,49,50,51,52,53,54,55] 72 55 a ?_ ?_)
   ·intro N a;refine Fl CG CV b (Ro 1 (Ix a (o.oj k) Da BY ?_));rintro C t0 a _ ⟨u0,v0,w0,rfl,x0,O,P⟩;obtain rfl:=Aq O;refine Yl z (CJ (us:=[.i C.Early,.i C.Late]) z FF P BY) (Yl z (Cq (uss:=[]) (out:=[.i 0,.i 0]) z z En Ip z z) (Yl z (vA z z z Tm (Td _ _) z) (Ro 1 (Pi 8 [3,5,48,49,50,51,52,53,54,55,56,57,58,59,60,61,62,63] 71 63 a ?_ ?_))))
    ·intro Q a;refine Fl Du CV b (Ro 1 (Ix a (p.oj k) Da BY ?_));rintro D y0 a _ ⟨z0,A0,B0,rfl,C0,R,S⟩;obtain rfl:=Aq R;refine Yl z (CJ (us:=[.i D.Early,.i D.Late]) z FF S BY) (Yl z (Cq (uss:=[]) (out:=[.i 0,.i 0]) z z En Ip z z) (Yl z (vA z z z Tm (Td _ _) z) ?_));cases BQ a;exact Ro 1 (DI)
    intro Q a;cases BQ a;exact Ro 1 (DI)
   intro N a;cases BQ a;exact Ro 1 (DI)
  intro M a;refine Ro 2 (Wt a k ?_);intro a;refine Rc 9 ?_;intro i g;exact⟨e,nr,(wrap .i64 (f+1)),g.sub z,(AJ.trans (AJ.trans q y) s),a⟩
def ZQ(n:Nat)(a0:Aj):Option Bool:=(GV n a0.Setup (-1000000000) 1000000000).bind fun e=>(cond e ((GV n a0.Hold (-1000000000) 1000000000).bind fun a=>some a) (some false)).bind fun c=>(cond c ((GV n a0.Uncertainty 0 1000000000).bind fun b=>some b) (some false)).bind fun d=>some d
theorem AbA{c:Aj}{d:Bool}(a:ZQ n c=some d):
 Calls prog 54 [.agg #[.i c.Setup,.i c.Hold,.i c.Uncertainty]].toArray w (Ao (.bool d) w):=by
 unfold ZQ at a;refine AA func54 z ntmps54 (Rc 2 (Ef z (AF z z) ?_));rintro _ p ⟨q,rfl,r,s,e,b⟩;have t:=e.size;refine Ro 5 (Fl Lm AI b ?_);refine Cs a e DK (fun _=>Ly) ?_;rintro u a v i ⟨f,x⟩;have b:=b.ext i;refine Ro 1 (FO 4 [1] 10 6 a ?_ ?_)
 ·intro j a;refine Fl Ls AI b ?_;refine Cs a f DK (fun _=>Ly) ?_;rintro y a A g ⟨B,C⟩;have b:=b.ext g;cases BQ a;exact Ro 1 (DU g)
 intro j a;intro D H;have⟨h,E⟩:=Et f H;have b:=b.ext H;refine Ro 1 (FO 4 [] 15 11 a ?_ ?_)
 ·intro k a;refine Fl IH AI b ?_;refine Cs a h DK (fun _=>Ly) ?_;rintro F a G l ⟨I,J⟩;cases BQ a;exact Ro 1 (DU l)
 intro k a;intro K m;have⟨o,L⟩:=Et h m;exact DW a o
def Ua(n:Nat)(a0:AQ)(a1:Ac)(a2:Aj):Option Int:=(YT n a0).bind fun c=>(cond (!c) (some true) ((VN n a0).bind fun b=>(Zw n b a1).bind fun d=>some (!d))).bind fun e=>cond e (some 1) ((ZQ n a2).bind fun a=>cond (!a) (some 2) (some 0))
theorem AbC{d:AQ}{f:Ac}{g:Aj}{j:Int}{k l m o p q r s:Value}(a:Ua n d f g=some j)(c:H<=w.heap.size)(t:AR C_Cell w H d.Library.Cells k)(u:AR C_Instance w H d.Design.Instances l)(v:AR At w H d.Design.Nets m)(x:AR C_Port w H d.Design.Ports o)(y:AR C_Wire w H d.Wires p)(G:AR BH w H f.Reached q)(I:AR C_Span w H f.Arrival r)(J:AR C_Span w H f.Slew s):
 Calls prog 23 [.agg #[k,l,m,o,p],.agg #[q,r,s],.agg #[.i g.Setup,.i g.Hold,.i g.Uncertainty]].toArray w (Ao (.i j) w):=by
 unfold Ua at a;refine AA func23 z ntmps23 (Rc 2 (Ef z (AF z z) ?_));rintro _ P ⟨Q,rfl,R,S,A,e⟩;have T:=A.size;refine Ef z (AF z z) ?_;rintro _ U ⟨V,rfl,W,X,B,h⟩;have⟨K,Y⟩:=Et A B;have e:=e.ext B;refine Ef z (AF z z) ?_;rintro _ Z ⟨a0,rfl,b0,c0,C,i⟩;have⟨b,d0⟩:=Et K C;have⟨e,h⟩:=CB e h C;refine Ro 5 (BX Tryz.hm (Qy z (CC z Ct e Ch) ?_));have⟨e0,L,a⟩:=AH a;refine Ql z (Iz z qX fun w' hw'=>(zR L (Nat.le_trans (by omega) (hw').size) (t.oh c (AJ.trans b hw')) (u.oh c (AJ.trans b hw')) (v.oh c (AJ.trans b hw')) (x.oh c (AJ.trans b hw')) (y.oh c (AJ.trans b hw')):)) ?_;refine Qr 2 (VD 6 [5] 16 10 a ?_ ?_)
 ·intro M a;refine Qy z (CC z Ct e Ch) ?_;have⟨f0,N,a⟩:=AH a;refine Ql z (Iz z fV fun w' hw'=>(sE N (Nat.le_trans (by omega) (hw').size) (t.oh c (AJ.trans b hw')) (u.oh c (AJ.trans b hw')) (v.oh c (AJ.trans b hw')) (x.oh c (AJ.trans b hw')) (y.oh c (AJ.trans b hw')):)) ?_;refine Qy z (CC z Fk h Ez) ?_;have⟨g0,O,a⟩:=AH a;refine Ql z (Iz z sS fun w' hw'=>(zU O (Nat.le_trans (by omega) (hw').size) (G.oh c (AJ.trans b hw')) (I.oh c (AJ.trans b hw')) (J.oh c (AJ.trans b hw')):)) ?_;refine Qr 1 ?_;cases BQ a;exact Qr 1 Mm
 intro M a;refine QL.done fun h0 D=>?_;have⟨E,i0⟩:=Et b D;have i:=i.ext D;refine Re 1 (Wt a E ?_);intro a;refine Rc 5 (Yl z (CC z HV i Gt) ?_);refine Cs a E pM (fun _=>AbA) ?_;rintro j0 a k0 l0 ⟨F,m0⟩;refine Ro 3 (Wt a F ?_);intro a;exact Iy a F
def Jf(i37:Int)(x52:AX)(k2:(List (List Int))->Int->Option (List (List Int))):Nat->(List (List Int))->Int->Option (List (List Int))
 |0,_,_=>none
 |m+1,b,a=>cond (decide (a<(x52.Arcs.length:Int))) ((AE x52.Arcs a).bind fun e=>(cond (e.Kind==4) (some true) ((AE x52.Arcs a).bind fun d=>some ((d.Kind==5)))).bind fun f=>cond f ((Dj b ([[i37,a,0],[i37,a,1]]) 24).bind fun c=>Jf i37 x52 k2 m c (wrap .i64 (a+1))) (Jf i37 x52 k2 m b (wrap .i64 (a+1)))) (k2 b a)
def JN(n:Nat)(a0:AQ)(k0:(List (List Int))->Int->Option (List (List Int))):Nat->(List (List Int))->Int->Option (List (List Int))
 |0,_,_=>none
 |m+1,b,a=>cond (decide (a<(a0.Design.Instances.length:Int))) ((AE a0.Design.Instances a).bind fun e=>(AE a0.Library.Cells e.Cell).bind fun c=>Jf a c (fun d f=>JN n a0 k0 m d (wrap .i64 (a+1))) n b 0) (k0 b a)
def sD(n:Nat)(a0:AQ):Option (List (List Int)):=JN n a0 (fun a b=>some a) n (([]:List (List Int))) 0
theorem W_j{i:AQ}{D:List (List Int)}{E F G I J:Value}(a:sD n i=some D)(hH:H<=w.heap.size)(l0:AR C_Cell w H i.Library.Cells E)(R:AR C_Instance w H i.Design.Instances F)(X0:AR At w H i.Design.Nets G)(Y0:AR C_Port w H i.Design.Ports I)(Z0:AR C_Wire w H i.Wires J):
 Calls prog 55 [.agg #[E,F,G,I,J]].toArray w (DA fun m0 M=>∃S u0_0,m0=S∧own2 (AL .i64) M (w.heap.size) (M.heap.size) 85 2 D S u0_0∧AJ w M):=by
 unfold sD at a;refine AA func55 z ntmps55 (Rc 2 (Ef z (AF z z) ?_));rintro _ a1 ⟨j,rfl,b1,c1,T,N⟩;have d1:=T.size;refine Ro 5 (Ef z (BM Mj ([]:List Value) [] z JO Od z z trivial) ?_);rintro U V ⟨p,W,e1,f1,X,n0⟩;have⟨o0,g1⟩:=Et T X;have N:=N.ext X;have Y:=BT W;clear W;have p0:own2 (AL .i64) V (p) (p) 85 2 (([]:List (List Int))) U []:=(own2.lit0 n0);refine Ro 10 (WC.loopD (fun v f wl=>∃(q:List (List Int)) (r:Value) (O:List Value) (b:Int),Kn 59 [(1,.p j),(3,r),(4,.i b)] f∧AJ w wl∧V.heap.size<=wl.heap.size∧BK wl j [E,F,G,I,J] 53∧own2 (AL .i64) wl (p) (wl.heap.size) 85 2 q r O∧Bd r p wl.heap.size∧Nb r j∧JN n i (fun q b=>(some q)) v q b=some D) n ?_ ?_)
 ·intro f hK;exact⟨(([]:List (List Int))),U,[],0,hK.sub z,o0,nr,N,(own2.wide p0),(fun g hg=>by have:=Y g hg;omega),(Nb.of Y),a⟩
 ·rintro v f h1 ⟨q,r,O,b,hK,x,i1,s,K,q0,r0,a⟩;refine By hK ?_;rcases v with _|v;exact Bx a;rw [JN.eq_2]at a;refine Rc 4 (Yl z (BF z Bl) (Yl z (BF z Bq) (Yl z (Di z DP s z) (Yl z (Bs z DV (R.oj x)) (Ro 3 (Wc z a ?_ ?_))))))
  ·intro a;refine Rc 5 (BX Tryz.hm (Qy z (BF z De) (Qy z (BF z CH) (Qy z (Di z ED s z) (Qy z (BF z Bl) (Qy z (BF z Bq) (Qy z (Di z DP s z) (Qr 1 (Iq a (R.oj x) DV Ba ?_)))))))));rintro j1 k1 a _ ⟨l1,m1,n1,rfl,o1,s0,t0⟩;obtain⟨p1,rfl,q1⟩:=As s0;refine KW CY AI t0 (Iq a (l0.oj x) EA BA ?_);rintro Z r1 a _ ⟨s1,t1,u1,rfl,v1,u0,v0⟩;obtain⟨w1,a0,x1,rfl,y1,P,z1⟩:=BV u0;refine KW Be Cd v0 (Qr 1 ?_);refine QL.done fun w0 b0=>?_;have⟨x0,A1⟩:=Et x b0;have⟨s,P,K⟩:=FS s P K b0;refine Re 7 ?_;have⟨y0,z0,a⟩:=La a;refine WC.loopD (fun t f wl=>∃(y:List (List Int)) (k:Value) (A:List Value) (d:Int),Kn 59 [(1,.p j),(3,k),(4,.i b),(5,a0),(6,.i d)] f∧AJ w wl∧w0.heap.size<=wl.heap.size∧BK wl j [E,F,G,I,J] 53∧AD C_Arc wl (Iv 0 H) Z.Arcs a0∧own2 (AL .i64) wl (p) (wl.heap.size) 85 2 y k A∧Bd k p wl.heap.size∧Nb k j∧Jf b Z y0 t y d=some D) n ?_ ?_
   ·intro f hK;exact⟨q,r,O,0,hK.sub z,x0,nr,s,P,(own2.wide K),(fun g hg=>by have:=q0 g hg;omega),r0,a⟩
   ·rintro t f B1 ⟨y,k,A,d,hK,Q,C1,e,c,h,u,L,a⟩;refine By hK ?_;rcases t with _|t;exact Bx a;rw [Jf.eq_2]at a;refine Rc 5 (Yl z (Bs z Bj c) (Ro 3 (Wc z a ?_ ?_)))
    ·intro a;refine Rc 8 (Ix a c Bj BL ?_);rintro D1 E1 a _ ⟨F1,G1,H1,rfl,I1,A0,B0⟩;obtain⟨J1,K1,rfl,L1,M1⟩:=BP A0;refine Fc Bo AI B0 (Ro 2 (Pi 7 [1,3,4,5,6] 48 41 a ?_ ?_))
     ·intro C0 a;refine Ro 2 (Ix a c Bj BL ?_);rintro N1 O1 a _ ⟨P1,Q1,R1,rfl,S1,D0,E0⟩;obtain⟨T1,U1,rfl,V1,W1⟩:=BP D0;refine Fc Bo AI E0 (Ro 1 ?_);cases BQ a;exact Ro 1 (DI)
     intro C0 a;refine Ro 2 (Wc z a ?_ ?_)
     ·intro a;refine Rc 4 (Ef z (BM (AL .i64) ([b,d,0]) [[.i b],[.i d],[.i 0]] z Af GU z z ⟨z,z,z,trivial⟩) ?_);rintro l X1 ⟨F0,c0,Y1,Z1,d0,m⟩;have⟨G0,a2⟩:=Et Q d0;have⟨e,c,h⟩:=FS e c h d0;have e0:=BT c0;clear c0;refine Ro 2 (Ef z (BM (AL .i64) ([b,d,1]) [[.i b],[.i d],[.i 1]] z Af GU z z ⟨z,z,z,trivial⟩) ?_);rintro o b2 ⟨H0,f0,c2,d2,g0,B⟩;have⟨I0,e2⟩:=Et G0 g0;have⟨e,c,h,m⟩:=JX e c h m g0;have h0:=BT f0;clear f0;refine Ef z (GG (c:=Mj) (xs:=([l,o]:List Value)) (S:=(Iv 0 0)) (uss:=[(0,[l]),(1,[o])]) (out:=[l,o]) z JO Od z (Le (AD.cl (AB.slf m nr nr)) (Le (AD.cl (AB.slf B nr nr)) z)) (MN [[l],[o]] z z z) z z z z (PG (uss:=[[l],[o]]) (show Mi _ _ _ _ _ from⟨⟨z,AB.one m⟩,⟨z,AB.one B⟩,trivial⟩) z) (fun f2 J0=>by have:=J0.2;omega) z) ?_;rintro K0 L0 ⟨M0,i0,g2,h2,j0,N0⟩;have⟨O0,i2⟩:=Et I0 j0;have⟨e,c,h,m,B⟩:=Ee e c h m B j0;have P0:=BT i0;clear i0;have Q0:own2 (AL .i64) L0 (min (F0) (H0)) (M0) 85 2 ([[b,d,0],[b,d,1]]) K0 ([l,o]):=(own2.lit2 N0 m B P0 e0 h0 (No.of e0 h0) (by omega) (by omega) (by omega) (by omega) (by omega) (by omega) (by omega));have⟨R0,S0,a⟩:=AH a;refine Ef z (Pt z JO Od z z z z h Q0 (by omega) (by omega) (by omega) (by omega) (by omega) (Ns.of u) S0) ?_;rintro T0 j2 ⟨k0,C⟩;have⟨U0,k2⟩:=Ge O0 C u;have V0:Nb _ j:=Gb C L;have e:=BN.box C e L;have c:=BN.slr C c (Ns.of u);have W0:=MX C (own2.r k0) u;refine Ro 10 ?_;intro f hK;exact⟨t,nr,R0,T0,((A++[l,o])),(wrap .i64 (d+1)),hK.sub z,U0,(by omega),e,c,(own2.wide k0),(fun g hg=>by have:=W0 g hg;omega),V0,a⟩
     ·intro a;refine Rc 9 ?_;intro f hK;exact⟨t,nr,y,k,A,(wrap .i64 (d+1)),hK.sub z,Q,(by omega),e,c,(own2.wide h),(fun g hg=>by have:=u g hg;omega),L,a⟩
    ·intro a;refine Rc 3 ?_
     subst z0
     refine Re 9 ?_;intro f hK;exact⟨v,nr,y,k,A,(wrap .i64 (b+1)),hK.sub z,Q,(by omega),e,(own2.wide h),(fun g hg=>by have:=u g hg;omega),L,a⟩
  ·intro a;cases BQ a;exact Rc 12 (Ne z z ⟨_,z,_,_,z,(own2.wide (own2.base K (by omega))),x⟩)
def GY(a1:Int)(a2:Int)(r13:List Ay)(k0:Int->Option Int):Nat->Int->Option Int
 |0,_=>none
 |m+1,a=>cond (decide (a<(r13.length:Int))) ((AE r13 a).bind fun d=>(cond (d.instance_==a1) ((AE r13 a).bind fun b=>some ((b.pin_==a2))) (some false)).bind fun c=>cond c (some a) (GY a1 a2 r13 k0 m (wrap .i64 (a+1)))) (k0 a)
def UZ(n:Nat)(a0:AP)(a1:Int)(a2:Int):Option Int:=(kY n a0).bind fun a=>GY a1 a2 a (fun b=>some (-1)) n 0
theorem tZ{g:AP}{h i k:Int}{m o p:Value}(a:UZ n g h i=some k)(hH:H<=w.heap.size)(r:AR C_Instance w H g.Instances m)(s:AR At w H g.Nets o)(t:AR C_Port w H g.Ports p):
 Calls prog 59 [.agg #[m,o,p],.i h,.i i].toArray w (Ao (.i k) w):=by
 unfold UZ at a;refine AA func59 z ntmps59 (Rc 2 (Ef z (AF z z) ?_));rintro _ J ⟨K,rfl,L,M,c,u⟩;have N:=c.size;refine Ro 5 (Yl z (CC z DZ u DL) ?_);refine Cg a XN (fun _ v=>(W_6 v (by omega) (r.oj c) (s.oj c) (t.oj c):)) ?_;rintro x a y A ⟨_,rfl,b,B⟩;have⟨C,O⟩:=Et c B;have P:=AB.blk b;refine Ro 10 (WC.loopD (fun d j wl=>∃e:Int,Kn 34 [(1,.i h),(2,.i i),(7,y),(8,.i e)] j∧AJ A wl∧GY h i x (fun e=>(some (-1))) d e=some k) n ?_ ?_)
 ·intro j f;exact⟨0,f.sub z,AJ.refl _,a⟩
 ·rintro d j Q ⟨e,f,l,a⟩;refine By f ?_;rcases d with _|d;exact Bx a;rw [GY.eq_2]at a;have⟨q,R⟩:=Et C l;have b:=b.ext l;refine Rc 5 (Yl z (Mg z Ik b) (Ro 3 (Wf a q ?_)));intro a;refine Rc 8 (Io a b Ik Pe ?_);rintro S T a _ ⟨U,V,rfl,W,D,E⟩;obtain rfl:=ET D;refine Fc Xy AI E (Ro 3 (JB 8 [1,2,7,8] 32 24 a ?_ ?_))
  ·intro F a;refine Ro 2 (Io a b Ik Pe ?_);rintro X Y a _ ⟨Z,a0,rfl,b0,G,I⟩;obtain rfl:=ET G;refine Fc Xl AI I (Ro 2 ?_);cases BQ a;exact Ro 1 (DI)
  intro F a;refine Ro 2 (Wt a q ?_);intro a;refine Rc 9 ?_;intro j f;exact⟨d,nr,(wrap .i64 (e+1)),f.sub z,l,a⟩
def Gm(a0:AX)(k1:Int->Option Int):Nat->Int->Option Int
 |0,_=>none
 |m+1,a=>cond (decide (a<(a0.Arcs.length:Int))) ((AE a0.Arcs a).bind fun b=>cond (b.Kind==3) (some 1) (Gm a0 k1 m (wrap .i64 (a+1)))) (k1 a)
def Wp(n:Nat)(a0:AX):Option Int:=cond (a0.Kind==3) (some 1) (cond (a0.Kind==2) (Gm a0 (fun a=>some 0) n 0) (some (-1)))
theorem xM{b:AX}{j:Int}{l m o:Value}(a:Wp n b=some j)(u:H<=w.heap.size)(v:AR C_Pin w H b.Pins l)(p:AR C_Arc w H b.Arcs m)(x:AR (AL .i64) w H b.Truth o):
 Calls prog 60 [.agg #[.string b.Name,.i b.Kind,l,m,o,.i b.Leak,.i b.Energy]].toArray w (Ao (.i j) w):=by
 unfold Wp at a;refine AA func60 z ntmps60 (Rc 2 (Ef z (AF z z) ?_));rintro _ q ⟨r,rfl,y,A,g,c⟩;have B:=g.size;refine Ro 6 (Fl Ek AI c (Ro 9 (Wt a g ?_)));intro a;refine Rc 6 (Wf a g ?_);intro a;refine Rc 7 (WC.loopD (fun d h wl=>∃e:Int,Kn 24 [(1,.p r),(3,.i e)] h∧AJ q wl∧Gm b (fun e=>(some 0)) d e=some j) n ?_ ?_)
 ·intro h f;exact⟨0,f.sub z,AJ.refl _,a⟩
 ·rintro d h C ⟨e,f,k,a⟩;refine By f ?_;rcases d with _|d;exact Bx a;rw [Gm.eq_2]at a;have⟨i,D⟩:=Et g k;have c:=c.ext k;refine Rc 4 (Dq Be Cd c Bj (p.oj i) (Ro 3 (Wf a i ?_)));intro a;refine Rc 6 (Fl Be Cd c (Ro 1 (Ix a (p.oj i) Bj BL ?_)));rintro E F a _ ⟨G,I,J,rfl,K,s,t⟩;obtain⟨L,M,rfl,N,O⟩:=BP s;refine Fc Bo AI t (Ro 3 (Wt a i ?_));intro a;refine Rc 9 ?_;intro h f;exact⟨d,nr,(wrap .i64 (e+1)),f.sub z,k,a⟩
def Qg(n:Nat)(a0:AQ)(a1:List Int):Option (Int×Int):=(AE a1 0).bind fun j=>(AE a0.Design.Instances j).bind fun k=>(AE a0.Library.Cells k.Cell).bind fun b=>(AE a1 1).bind fun h=>(AE b.Arcs h).bind fun a=>(AE a1 0).bind fun i=>(UZ n a0.Design i a.To).bind fun d=>(AE a1 2).bind fun f=>(AE a1 0).bind fun e=>(UZ n a0.Design e a.From).bind fun g=>(Wp n b).bind fun c=>some (wrap .i64 ((wrap .i64 (2*d))+f),wrap .i64 ((wrap .i64 (2*g))+c))
theorem lJ{i:AQ}{A:List Int}{s:Int×Int}{B j k l C D:Value}(hF:Qg n i A=some s)(hH:H<=w.heap.size)(P:AR C_Cell w H i.Library.Cells B)(t:AR C_Instance w H i.Design.Instances j)(E:AR At w H i.Design.Nets k)(F:AR C_Port w H i.Design.Ports l)(y0:AR C_Wire w H i.Wires C)(m:AR (AL .i64) w H A D):
 Calls prog 26 [.agg #[B,j,k,l,C],D].toArray w (DA fun Q R=>Q= .tuple #[.i s.1,.i s.2]∧AJ w R):=by
 unfold Qg at hF;refine AA func26 z ntmps26 (Rc 2 (Ef z (AF z z) ?_));rintro _ z0 ⟨A0,rfl,B0,C0,G,a⟩;have D0:=G.size;have⟨E0,S,hF⟩:=AH hF;have⟨F0,T,hF⟩:=AH hF;have⟨o,U,hF⟩:=AH hF;refine Ro 5 ?_;refine CZ 15 Tryz.hm fun I J b=>?_;have⟨p,G0⟩:=Et G J;have a:=a.ext J;refine BO 0 b z (BF z De) (BO 1 b z (BF z CH) (BO 2 b z (Di z ED a z) (BO 3 b z (BF z Bl) (BO 4 b z (BF z Bq) (BO 5 b z (Di z DP a z) (EP b [6] (GS 7 b z (EJ z Af Ap (m.oj p) S) ?_)))))));rintro _ ⟨H0,I0,_,rfl,J0,rfl,V⟩;refine BO 8 b z (FG 0 z AI V z z) (GS 9 b z (EJ z DV Ba (t.oj p) T) ?_);rintro _ ⟨K0,L0,M0,rfl,N0,W,X⟩;obtain⟨O0,rfl,P0⟩:=As W;refine BO 10 b z (BF z CY) (BO 11 b z (FG 1 z AI X z z) (GS 12 b z (EJ z EA BA (P.oj p) U) ?_));rintro _ ⟨Q0,R0,S0,rfl,T0,Y,Z⟩;obtain⟨a0,b0,c0,rfl,d,c,e⟩:=BV Y;refine BO 13 b z (CJ (us:=[.string o.Name,.i o.Kind,a0,b0,c0,.i o.Leak,.i o.Energy]) z CI Z BA) (Ka 14 z (AY z NF) ?_);rintro _ d0 ⟨U0,rfl,V0,W0,u,f⟩;have e0:AJ I d0:=AJ.trans (AJ.refl I) u;have⟨f0,X0⟩:=Et p u;have⟨a,d,c,e⟩:=JX a d c e u;refine⟨e0,?_⟩;refine KD z (Ef z (Cu z f BA (AC z (AC z (AC (AD.one d) (AC (AD.one c) (AC (AD.one e) (AC z (AC z Aw))))))) z) ?_);rintro _ Y0 ⟨K,g0⟩;have⟨h0,Z0⟩:=Eu f0 K;have⟨a,d,c,e⟩:=OK a d c e K;have f:=g0;refine TL.noPan (l:=[]) (Re 2 ?_);have⟨a1,i0,hF⟩:=AH hF;have⟨q,j0,hF⟩:=AH hF;refine CZ 8 Tryz.hm fun L M h=>?_;have⟨N,b1⟩:=Et h0 M;have⟨a,f,d,c,e⟩:=Ee a f d c e M;refine BO 0 h z (BF z Be) (BO 1 h z (Di z Cd f z) (EP h [2] (GS 3 h z (EJ z Af Ap (m.oj N) i0) ?_)));rintro _ ⟨c1,d1,_,rfl,e1,rfl,k0⟩;refine BO 4 h z (FG 0 z AI k0 z z) (GS 5 h z (EJ z Bj BL c j0) ?_);rintro _ ⟨f1,g1,h1,rfl,i1,l0,m0⟩;obtain⟨n0,o0,rfl,v,x⟩:=BP l0;refine BO 6 h z (CJ (us:=[.i q.Kind,.i q.From,.i q.To,.i q.Sense,n0,o0]) z Dz m0 BL) (Ka 7 z (AY z Ew) ?_);rintro _ p0 ⟨j1,rfl,k1,l1,y,r⟩;have q0:AJ L p0:=AJ.trans (AJ.refl L) y;have⟨r0,m1⟩:=Et N y;have⟨a,f,d,c,e,v,x⟩:=TP a f d c e v x y;refine⟨q0,?_⟩;refine KD z (Ef z (Cu z r BL (AC z (AC z (AC z (AC z (AC (AD.one v) (AC (AD.one x) Aw)))))) z) ?_);rintro _ n1 ⟨O,s0⟩;have⟨g,o1⟩:=Eu r0 O;have⟨a,f,d,c,e⟩:=Ou a f d c e O;have r:=s0;refine TL.noPan (l:=[]) (Re 2 (BX Tryz.hm (Qy z (BF z Bl) (Qy z (CJ (us:=[j,k,l]) z DZ (AM.sub (BK.cells a) 1 3:AM _ _ _ [j,k,l]) DL) (Qr 1 (OI hF (m.oj g) Af Ap AI ?_))))));rintro p1 hF _;refine Fq Bv AI r ?_;have⟨q1,t0,hF⟩:=AH hF;refine Ql z (Iz z gE fun w' hw'=>(tZ t0 (Nat.le_trans (by omega) (hw').size) (t.oh hH (AJ.trans g hw')) (E.oh hH (AJ.trans g hw')) (F.oh hH (AJ.trans g hw')):)) ?_;refine Qr 2 (OI hF (m.oj g) Af Ap AI ?_);rintro r1 hF _;refine Qr 1 (Qy z (BF z Bl) (Qy z (CJ (us:=[j,k,l]) z DZ (AM.sub (BK.cells a) 1 3:AM _ _ _ [j,k,l]) DL) (Qr 1 (OI hF (m.oj g) Af Ap AI ?_))));rintro s1 hF _;refine Fq Cb AI r ?_;have⟨t1,u0,hF⟩:=AH hF;refine Ql z (Iz z gE fun w' hw'=>(tZ u0 (Nat.le_trans (by omega) (hw').size) (t.oh hH (AJ.trans g hw')) (E.oh hH (AJ.trans g hw')) (F.oh hH (AJ.trans g hw')):)) ?_;refine Qr 1 (Qy z (CC z CI f BA) ?_);have⟨u1,v0,hF⟩:=AH hF;refine Ql z (Iz z rJ fun w' hw'=>(xM v0 (Nat.le_trans (by omega) (hw').size) (d.old hw' (by omega)) (c.old hw' (by omega)) (e.old hw' (by omega)):)) ?_;refine Qr 3 ?_;refine QL.done fun v1 w0=>?_;have⟨x0,w1⟩:=Et g w0;exact Uc hF x0
def cV(n:Nat)(a0:AQ)(a1:Ac)(a2:List Int):Option Bool:=(Qg n a0 a2).bind fun a=>(AE a1.Reached a.1).bind fun c=>(cond c ((AE a1.Reached a.2).bind fun b=>some b) (some false)).bind fun d=>some d
theorem wJ{c:AQ}{d:Ac}{h:List Int}{i:Bool}{j k l m o p q r s:Value}(a:cV n c d h=some i)(I:H<=w.heap.size)(y:AR C_Cell w H c.Library.Cells j)(A:AR C_Instance w H c.Design.Instances k)(B:AR At w H c.Design.Nets l)(C:AR C_Port w H c.Design.Ports m)(D:AR C_Wire w H c.Wires o)(t:AR BH w H d.Reached p)(J:AR C_Span w H d.Arrival q)(K:AR C_Span w H d.Slew r)(E:AR (AL .i64) w H h s):
 Calls prog 56 [.agg #[j,k,l,m,o],.agg #[p,q,r],s].toArray w (Ao (.bool i) w):=by
 unfold cV at a;refine AA func56 z ntmps56 (Rc 2 (Ef z (AF z z) ?_));rintro _ L ⟨M,rfl,N,O,u,f⟩;have P:=u.size;refine Ef z (AF z z) ?_;rintro _ Q ⟨R,rfl,S,T,v,e⟩;have⟨b,U⟩:=Et u v;have f:=f.ext v;refine Ro 5 (Yl z (CC z Ct f Ch) (Ro 1 ?_));refine Cg a YP (fun _ F=>(lJ F (by omega) (y.oj b) (A.oj b) (B.oj b) (C.oj b) (D.oj b) (E.oj b):)) ?_;rintro V a _ W ⟨rfl,x⟩;have⟨g,X⟩:=Et b x;have e:=e.ext x;refine Ro 9 (Fl EL Gy e (Ro 1 (Il a (t.oj g) GA Ku Ed ?_)));rintro Y a _;refine Ro 1 (JB 6 [] 26 20 a ?_ ?_)
 ·intro G a;refine Fl EL Gy e (Ro 1 (Il a (t.oj g) GA Ku Ed ?_));rintro Z a _;cases BQ a;exact Ro 1 (DI)
 intro G a;exact DW a g
def HG(a0:List Int)(a1:Int)(x3:Int)(x12:Int)(k0:Int->Option (Int×Int×Int)):Nat->Int->Option (Int×Int×Int)
 |0,_=>none
 |m+1,a=>cond (decide (a>=0)) ((AE a0 a).bind fun c=>cond ((min (max a1 x3) x12)==c) (some (a,1,0)) ((AE a0 a).bind fun d=>cond (decide (min (max a1 x3) x12>d)) ((AE a0 (wrap .i64 (a+1))).bind fun e=>(AE a0 a).bind fun b=>some (a,wrap .i64 (e-(min (max a1 x3) x12)),wrap .i64 ((min (max a1 x3) x12)-b))) (HG a0 a1 x3 x12 k0 m (wrap .i64 (a-1))))) (k0 a)
def lE(n:Nat)(a0:List Int)(a1:Int):Option (Int×Int×Int):=(AE a0 0).bind fun c=>(AE a0 (wrap .i64 (((a0.length:Int))-1))).bind fun a=>HG a0 a1 c a (fun b=>some (0,1,0)) n (wrap .i64 (((a0.length:Int))-1))
theorem W_x{h:List Int}{i:Int}{d:Int×Int×Int}{k:Value}(a:lE n h i=some d)(t:H<=w.heap.size)(c:AR (AL .i64) w H h k):
 Calls prog 128 [k,.i i].toArray w (DA fun p q=>p= .tuple #[.i d.1,.i d.2.1,.i d.2.2]∧AJ w q):=by
 have l:=AJ.refl w;unfold lE at a;refine AA func128 z ntmps128 (Rc 10 (Yl z (Bs z Af (c.oj l)) (Ro 7 (Il a (c.oj l) Af Ap AI ?_))));rintro m a _;refine Yl z (GI z z z) (Ro 9 (Il a (c.oj l) Af Ap AI ?_));rintro o a _;refine Yl z (Ff z z z) (Ro 12 ?_);refine WC.loopD (fun e j wl=>∃f:Int,Kn 56 [(0,k),(1,.i (min (max i m) o)),(8,.i f)] j∧AJ w wl∧HG h i m o (fun f=>(some (0,1,0))) e f=some d) n ?_ ?_
 ·intro j g;exact⟨(wrap .i64 (((h.length:Int))-1)),g.sub z,AJ.refl _,a⟩
 ·rintro e j u ⟨f,g,b,a⟩;refine By g ?_;rcases e with _|e;exact Bx a;rw [HG.eq_2]at a;have v:=b.size;refine Rc 7 (Wf a b ?_);intro a;refine Rc 10 (Il a (c.oj b) Af Ap AI ?_);rintro x a _;refine Ro 3 (Wt a b ?_);intro a;refine Rc 7 (Il a (c.oj b) Af Ap AI ?_);rintro y a _;refine Ro 3 (Wc z a ?_ ?_)
  ·intro a;refine Rc 1 (BX Tryz.hm (Qr 4 (OI a (c.oj b) Af Ap AI ?_)));rintro A a _;refine Qr 5 (OI a (c.oj b) Af Ap AI ?_);rintro B a _;refine Qr 4 ?_;refine QL.done fun C r=>?_;have⟨s,D⟩:=Et b r;exact Uc a s
  ·intro a;refine Rc 9 ?_;intro j g;exact⟨e,nr,(wrap .i64 (f-1)),g.sub z,b,a⟩
def Ux(n:Nat)(a0:Int)(a1:Int)(a2:Int):Option Int:=cond (a1==0) none (cond (a1==0) none (cond ((decide (Int.tmod a0 a1<0))&&((a2==0))) (some (wrap .i64 ((wrap .i64 (Int.tdiv a0 a1))-1))) (cond ((decide (Int.tmod a0 a1>0))&&((a2==1))) (some (wrap .i64 ((wrap .i64 (Int.tdiv a0 a1))+1))) (some (wrap .i64 (Int.tdiv a0 a1))))))
theorem AbS{c d e f:Int}(a:Ux n c d e=some f):
 Calls prog 129 [.i c,.i d,.i e].toArray w (Ao (.i f) w):=by
 have b:=AJ.refl w;unfold Ux at a;have⟨g,a⟩:=Oj a;refine AA func129 z ntmps129 (Rc 9 (Yl z (PY z z z g) (Ro 7 ?_)));have⟨h,a⟩:=Oj a;refine Yl z (Pc z z z h) (Ro 9 (kZ 3 [2,7,8] 20 17 ?_));refine Ro 2 (Wt a b ?_);intro a;refine Rc 8 (kZ 3 [7] 28 25 ?_);refine Ro 2 (Wt a b ?_);intro a;exact Iy a b
def EZ(a0:AS)(r13:Int×Int×Int)(r19:Int×Int×Int)(i28:Int)(k2:Int->Int->Option Int):Nat->Int->Int->Option Int
 |0,_,_=>none
 |m+1,b,a=>cond (decide (a<2)) (cond (i28==1) (cond (a==0) (cond (decide (wrap .i64 (r13.2.2*r19.2.1)>0)) ((AE a0.Values (wrap .i64 ((wrap .i64 ((wrap .i64 ((wrap .i64 (r13.1+i28))*((a0.Loads.length:Int))))+r19.1))+a))).bind fun d=>EZ a0 r13 r19 i28 k2 m (wrap .i64 (b+(wrap .i64 ((wrap .i64 (r13.2.2*r19.2.1))*d)))) (wrap .i64 (a+1))) (EZ a0 r13 r19 i28 k2 m b (wrap .i64 (a+1)))) (cond (decide (wrap .i64 (r13.2.2*r19.2.2)>0)) ((AE a0.Values (wrap .i64 ((wrap .i64 ((wrap .i64 ((wrap .i64 (r13.1+i28))*((a0.Loads.length:Int))))+r19.1))+a))).bind fun e=>EZ a0 r13 r19 i28 k2 m (wrap .i64 (b+(wrap .i64 ((wrap .i64 (r13.2.2*r19.2.2))*e)))) (wrap .i64 (a+1))) (EZ a0 r13 r19 i28 k2 m b (wrap .i64 (a+1))))) (cond (a==0) (cond (decide (wrap .i64 (r13.2.1*r19.2.1)>0)) ((AE a0.Values (wrap .i64 ((wrap .i64 ((wrap .i64 ((wrap .i64 (r13.1+i28))*((a0.Loads.length:Int))))+r19.1))+a))).bind fun f=>EZ a0 r13 r19 i28 k2 m (wrap .i64 (b+(wrap .i64 ((wrap .i64 (r13.2.1*r19.2.1))*f)))) (wrap .i64 (a+1))) (EZ a0 r13 r19 i28 k2 m b (wrap .i64 (a+1)))) (cond (decide (wrap .i64 (r13.2.1*r19.2.2)>0)) ((AE a0.Values (wrap .i64 ((wrap .i64 ((wrap .i64 ((wrap .i64 (r13.1+i28))*((a0.Loads.length:Int))))+r19.1))+a))).bind fun c=>EZ a0 r13 r19 i28 k2 m (wrap .i64 (b+(wrap .i64 ((wrap .i64 (r13.2.1*r19.2.2))*c)))) (wrap .i64 (a+1))) (EZ a0 r13 r19 i28 k2 m b (wrap .i64 (a+1)))))) (k2 b a)
def JD(n:Nat)(a0:AS)(r13:Int×Int×Int)(r19:Int×Int×Int)(k0:Int->Int->Option Int):Nat->Int->Int->Option Int
 |0,_,_=>none
 |m+1,b,a=>cond (decide (a<2)) (EZ a0 r13 r19 a (fun c d=>JD n a0 r13 r19 k0 m c (wrap .i64 (a+1))) n b 0) (k0 b a)
def uN(n:Nat)(a0:AS)(a1:Int)(a2:Int)(a3:Int):Option Int:=(lE n a0.Slews a1).bind fun a=>(lE n a0.Loads a2).bind fun b=>JD n a0 a b (fun d e=>(Ux n d (wrap .i64 ((wrap .i64 (a.2.1+a.2.2))*(wrap .i64 (b.2.1+b.2.2)))) a3).bind fun c=>some c) n 0 0
theorem W_9{k:AS}{x y o p:Int}{A B C:Value}(a:uN n k x y o=some p)(hH:H<=w.heap.size)(L:AR (AL .i64) w H k.Slews A)(D:AR (AL .i64) w H k.Loads B)(q:AR (AL .i64) w H k.Values C):
 Calls prog 97 [.agg #[A,B,C],.i x,.i y,.i o].toArray w (Ao (.i p) w):=by
 unfold uN at a;refine AA func97 z ntmps97 (Rc 2 (Ef z (AF z z) ?_));rintro _ X ⟨E,rfl,Y,Z,t,d⟩;have a0:=t.size;refine Ro 5 (Fl EQ Ad d (Ro 1 ?_));refine Cg a Wr (fun _ u=>(W_x u (by omega) (L.oj t):)) ?_;rintro e a _ b0 ⟨rfl,F⟩;have⟨G,c0⟩:=Et t F;have d:=d.ext F;refine Ro 11 (Fl Dk Ad d (Ro 1 ?_));refine Cg a Wr (fun _ u=>(W_x u (by omega) (D.oj G):)) ?_;rintro f a _ M ⟨rfl,I⟩;have⟨J,d0⟩:=Et G I;have d:=d.ext I;refine Ro 11 (Dq Dk Ad d Af (D.oj J) (Ro 15 ?_));have⟨N,O,a⟩:=La a;refine WC.loopD (fun m c wl=>∃r l:Int,Kn 88 [(3,.i o),(4,.p E),(9,.i e.1),(10,.i e.2.1),(11,.i e.2.2),(12,.i f.1),(13,.i f.2.1),(14,.i f.2.2),(15,.i ((k.Loads.length:Int))),(16,.i r),(17,.i l)] c∧AJ M wl∧JD n k e f N m r l=some p) n ?_ ?_
 ·intro c b;exact⟨0,0,b.sub z,AJ.refl _,a⟩
 ·rintro m c P ⟨r,l,b,v,a⟩;refine By b ?_;rcases m with _|m;exact Bx a;rw [JD.eq_2]at a;have⟨K,e0⟩:=Et J v;have d:=d.ext v;refine Rc 7 (Wc z a ?_ ?_)
  ·intro a;have⟨Q,R,a⟩:=La a;refine Rc 10 (WC.loopD (fun g c wl=>∃h i:Int,Kn 88 [(3,.i o),(4,.p E),(9,.i e.1),(10,.i e.2.1),(11,.i e.2.2),(12,.i f.1),(13,.i f.2.1),(14,.i f.2.2),(15,.i ((k.Loads.length:Int))),(16,.i h),(17,.i l),(18,.i i)] c∧AJ P wl∧EZ k e f l Q g h i=some p) n ?_ ?_)
   ·intro c b;exact⟨r,0,b.sub z,AJ.refl _,a⟩
   ·rintro g c f0 ⟨h,i,b,j,a⟩;refine By b ?_;rcases g with _|g;exact Bx a;rw [EZ.eq_2]at a;have⟨s,g0⟩:=Et K j;have d:=d.ext j;refine Rc 7 (Wc z a ?_ ?_)
    ·intro a;refine Rc 17 (Wc z a ?_ ?_)
     ·intro a;refine Rc 12 (Wc z a ?_ ?_)
      ·intro a;refine Rc 13 (Wc z a ?_ ?_)
       ·intro a;refine Rc 3 (Fl CF Ad d (Ro 9 (Il a (q.oj s) Af Ap AI ?_)));rintro S a _;refine Ro 12 ?_;intro c b;exact⟨g,nr,(wrap .i64 (h+(wrap .i64 ((wrap .i64 (e.2.2*f.2.1))*S)))),(wrap .i64 (i+1)),b.sub z,j,a⟩
       ·intro a;refine Rc 9 ?_;intro c b;exact⟨g,nr,h,(wrap .i64 (i+1)),b.sub z,j,a⟩
      ·intro a;refine Rc 13 (Wc z a ?_ ?_)
       ·intro a;refine Rc 3 (Fl CF Ad d (Ro 9 (Il a (q.oj s) Af Ap AI ?_)));rintro T a _;refine Ro 12 ?_;intro c b;exact⟨g,nr,(wrap .i64 (h+(wrap .i64 ((wrap .i64 (e.2.2*f.2.2))*T)))),(wrap .i64 (i+1)),b.sub z,j,a⟩
       ·intro a;refine Rc 9 ?_;intro c b;exact⟨g,nr,h,(wrap .i64 (i+1)),b.sub z,j,a⟩
     ·intro a;refine Rc 9 (Wc z a ?_ ?_)
      ·intro a;refine Rc 13 (Wc z a ?_ ?_)
       ·intro a;refine Rc 3 (Fl CF Ad d (Ro 9 (Il a (q.oj s) Af Ap AI ?_)));rintro U a _;refine Ro 12 ?_;intro c b;exact⟨g,nr,(wrap .i64 (h+(wrap .i64 ((wrap .i64 (e.2.1*f.2.1))*U)))),(wrap .i64 (i+1)),b.sub z,j,a⟩
       ·intro a;refine Rc 9 ?_;intro c b;exact⟨g,nr,h,(wrap .i64 (i+1)),b.sub z,j,a⟩
      ·intro a;refine Rc 13 (Wc z a ?_ ?_)
       ·intro a;refine Rc 3 (Fl CF Ad d (Ro 9 (Il a (q.oj s) Af Ap AI ?_)));rintro V a _;refine Ro 12 ?_;intro c b;exact⟨g,nr,(wrap .i64 (h+(wrap .i64 ((wrap .i64 (e.2.1*f.2.2))*V)))),(wrap .i64 (i+1)),b.sub z,j,a⟩
       ·intro a;refine Rc 9 ?_;intro c b;exact⟨g,nr,h,(wrap .i64 (i+1)),b.sub z,j,a⟩
    ·intro a;refine Rc 3 ?_
     subst R
     refine Re 9 ?_;intro c b;exact⟨m,nr,h,(wrap .i64 (l+1)),b.sub z,(AJ.trans v j),a⟩
  ·intro a;refine Rc 3 ?_
   subst O
   refine Re 13 ?_;refine Cs a K jZ (fun _=>AbS) ?_;rintro h0 a i0 j0 ⟨W,k0⟩;exact DW a W
def bQ(n:Nat)(a0:AQ)(a1:Ac)(a2:Aj)(a3:List Int):Option Int:=(AE a3 0).bind fun l=>(AE a0.Design.Instances l).bind fun o=>(AE a0.Library.Cells o.Cell).bind fun p=>(AE a3 1).bind fun r=>(AE p.Arcs r).bind fun h=>(Qg n a0 a3).bind fun a=>(AE a3 2).bind fun k=>(AE h.Delay k).bind fun j=>(AE a1.Slew a.1).bind fun g=>(AE a1.Slew a.2).bind fun i=>(uN n j g.Late i.Late 1).bind fun b=>cond (h.Kind==4) ((AE a1.Arrival a.2).bind fun d=>(AE a1.Arrival a.1).bind fun c=>some (wrap .i64 ((wrap .i64 ((wrap .i64 ((wrap .i64 (a2.Setup+d.Early))-b))-a2.Uncertainty))-c.Late))) ((AE a1.Arrival a.1).bind fun f=>(AE a1.Arrival a.2).bind fun e=>some (wrap .i64 (f.Early-(wrap .i64 ((wrap .i64 ((wrap .i64 (a2.Hold+e.Late))+b))+a2.Uncertainty)))))
theorem yR{i:AQ}{l:Ac}{m:Aj}{u:List Int}{v:Int}{x y A B C D E F G:Value}(a:bQ n i l m u=some v)(hH:H<=w.heap.size)(I:AR C_Cell w H i.Library.Cells x)(J:AR C_Instance w H i.Design.Instances y)(U:AR At w H i.Design.Nets A)(V:AR C_Port w H i.Design.Ports B)(W:AR C_Wire w H i.Wires C)(S0:AR BH w H l.Reached D)(o:AR C_Span w H l.Arrival E)(K:AR C_Span w H l.Slew F)(p:AR (AL .i64) w H u G):
 Calls prog 57 [.agg #[x,y,A,B,C],.agg #[D,E,F],.agg #[.i m.Setup,.i m.Hold,.i m.Uncertainty],G].toArray w (Ao (.i v) w):=by
 unfold bQ at a;refine AA func57 z ntmps57 (Rc 2 (Ef z (AF z z) ?_));rintro _ T0 ⟨U0,rfl,V0,W0,L,e⟩;have X0:=L.size;refine Ef z (AF z z) ?_;rintro _ Y0 ⟨Z0,rfl,a1,b1,M,b⟩;have⟨X,c1⟩:=Et L M;have e:=e.ext M;refine Ef z (AF z z) ?_;rintro _ d1 ⟨e1,rfl,f1,g1,N,d⟩;have⟨Y,h1⟩:=Et X N;have⟨e,b⟩:=CB e b N;have⟨i1,Z,a⟩:=AH a;have⟨j1,a0,a⟩:=AH a;have⟨k1,b0,a⟩:=AH a;have⟨l1,c0,a⟩:=AH a;have⟨q,d0,a⟩:=AH a;refine Ro 4 ?_;refine CZ 21 Tryz.hm fun O P c=>?_;have⟨k,m1⟩:=Et Y P;have⟨e,b,d⟩:=FS e b d P;refine BO 0 c z (BF z De) (BO 1 c z (BF z CH) (BO 2 c z (Di z ED e z) (BO 3 c z (BF z Bl) (BO 4 c z (BF z Bq) (BO 5 c z (Di z DP e z) (EP c [6] (GS 7 c z (EJ z Af Ap (p.oj k) Z) ?_)))))));rintro _ ⟨n1,o1,_,rfl,p1,rfl,e0⟩;refine BO 8 c z (FG 0 z AI e0 z z) (GS 9 c z (EJ z DV Ba (J.oj k) a0) ?_);rintro _ ⟨q1,r1,s1,rfl,t1,f0,g0⟩;obtain⟨u1,rfl,v1⟩:=As f0;refine BO 10 c z (BF z CY) (BO 11 c z (FG 1 z AI g0 z z) (GS 12 c z (EJ z EA BA (I.oj k) b0) ?_));rintro _ ⟨w1,x1,y1,rfl,z1,h0,i0⟩;obtain⟨A1,B1,C1,rfl,D1,j0,E1⟩:=BV h0;refine BO 13 c z (BF z Be) (BO 14 c z (FG 3 z Cd i0 z z) (EP c [15] (GS 16 c z (EJ z Af Ap (p.oj k) c0) ?_)));rintro _ ⟨F1,G1,_,rfl,H1,rfl,k0⟩;refine BO 17 c z (FG 0 z AI k0 z z) (GS 18 c z (EJ z Bj BL j0 d0) ?_);rintro _ ⟨I1,J1,K1,rfl,L1,l0,m0⟩;obtain⟨n0,o0,rfl,f,s⟩:=BP l0;refine BO 19 c z (CJ (us:=[.i q.Kind,.i q.From,.i q.To,.i q.Sense,n0,o0]) z Dz m0 BL) (Ka 20 z (AY z Ew) ?_);rintro _ p0 ⟨M1,rfl,N1,O1,t,g⟩;have q0:AJ O p0:=AJ.trans (AJ.refl O) t;have⟨r0,P1⟩:=Et k t;have⟨e,b,d,f,s⟩:=Ee e b d f s t;refine⟨q0,?_⟩;refine KD z (Ef z (Cu z g BL (AC z (AC z (AC z (AC z (AC (AD.one f) (AC (AD.one s) Aw)))))) z) ?_);rintro _ Q1 ⟨Q,s0⟩;have⟨h,R1⟩:=Eu r0 Q;have⟨e,b,d,f⟩:=OK e b d f Q;have g:=s0;refine TL.noPan (l:=[]) (Re 3 (Yl z (CC z Ct e Ch) (Ro 1 ?_)));refine Cg a YP (fun _ t0=>(lJ t0 (by omega) (I.oj h) (J.oj h) (U.oj h) (V.oj h) (W.oj h) (p.oj h):)) ?_;rintro S1 a _ T1 ⟨rfl,R⟩;have⟨r,U1⟩:=Et h R;have⟨b,d,g,f⟩:=JX b d g f R;refine Ro 8 (BX Tryz.hm (Fq Db DX g (Qr 1 (OI a (p.oj r) Af Ap AI ?_))));rintro V1 a _;refine Iq a f GK Cy ?_;rintro W1 X1 a _ ⟨Y1,Z1,a2,rfl,b2,u0,v0⟩;obtain⟨w0,x0,y0,rfl,z0,A0,B0⟩:=Co u0;refine Qy z (CJ (us:=[w0,x0,y0]) z HP v0 Cy) (Fq Du CV b (Qr 1 (Iq a (K.oj r) Da BY ?_)));rintro c2 d2 a _ ⟨e2,f2,g2,rfl,h2,C0,D0⟩;obtain rfl:=Aq C0;refine KW BW AI D0 (Fq Du CV b (Qr 1 (Iq a (K.oj r) Da BY ?_)));rintro i2 j2 a _ ⟨k2,l2,m2,rfl,n2,E0,F0⟩;obtain rfl:=Aq E0;refine KW BW AI F0 ?_;have⟨o2,G0,a⟩:=AH a;refine Ql z (Iz z tO fun w' hw'=>(W_9 G0 (Nat.le_trans (by omega) (hw').size) (z0.old hw' (by omega)) (A0.old hw' (by omega)) (B0.old hw' (by omega)):)) ?_;refine Qr 1 ?_;refine QL.done fun p2 S=>?_;have⟨j,q2⟩:=Et r S;have⟨b,d,g⟩:=FS b d g S;refine Re 4 (Fl Bo AI g (Ro 3 (Wc z a ?_ ?_)))
 ·intro a;refine Rc 1 (BX Tryz.hm (Fq Lm AI d (Fq CG CV b (Qr 1 (Iq a (o.oj j) Da BY ?_)))));rintro r2 s2 a _ ⟨t2,u2,v2,rfl,w2,H0,I0⟩;obtain rfl:=Aq H0;refine KW Bb AI I0 (Qr 3 (Fq IH AI d (Qr 1 (Fq CG CV b (Qr 1 (Iq a (o.oj j) Da BY ?_))))));rintro x2 y2 a _ ⟨z2,A2,B2,rfl,C2,J0,K0⟩;obtain rfl:=Aq J0;refine KW BW AI K0 (Qr 2 ?_);refine QL.done fun D2 T=>?_;have⟨L0,E2⟩:=Et j T;have⟨b,d⟩:=CB b d T;exact Uc a L0
 ·intro a;refine Rc 3 (BX Tryz.hm (Fq CG CV b (Qr 1 (Iq a (o.oj j) Da BY ?_))));rintro F2 G2 a _ ⟨H2,I2,J2,rfl,K2,M0,N0⟩;obtain rfl:=Aq M0;refine KW Bb AI N0 (Fq Ls AI d (Fq CG CV b (Qr 1 (Iq a (o.oj j) Da BY ?_))));rintro L2 M2 a _ ⟨N2,O2,P2,rfl,Q2,O0,P0⟩;obtain rfl:=Aq O0;refine KW BW AI P0 (Qr 3 (Fq IH AI d (Qr 3 ?_)));refine QL.done fun R2 Q0=>?_;have⟨R0,S2⟩:=Et j Q0;exact Uc a R0
def Gx(n:Nat)(a0:AQ)(a1:Ac)(a2:Aj)(r49:List (List Int))(k0:(List Al)->Int->Option (List Al)):Nat->(List Al)->Int->Option (List Al)
 |0,_,_=>none
 |m+1,c,b=>cond (decide (b<(r49.length:Int))) ((AE r49 b).bind fun a=>(cV n a0 a1 a).bind fun i=>cond i ((AE a 0).bind fun h=>(AE a 1).bind fun e=>(AE a 2).bind fun g=>(bQ n a0 a1 a2 a).bind fun d=>(Dj c ([(Al.mk h e g d)]) 32).bind fun f=>Gx n a0 a1 a2 r49 k0 m f (wrap .i64 (b+1))) (Gx n a0 a1 a2 r49 k0 m c (wrap .i64 (b+1)))) (k0 c b)
def Zg(n:Nat)(a0:AQ)(a1:Ac)(a2:Aj):Option (List Al):=(sD n a0).bind fun a=>Gx n a0 a1 a2 a (fun b c=>some b) n (([]:List Al)) 0
theorem AaT{p:AQ}{y:Ac}{o:Aj}{J:List Al}{K L M N O P Q R:Value}(a:Zg n p y o=some J)(hH:H<=w.heap.size)(S:AR C_Cell w H p.Library.Cells K)(T:AR C_Instance w H p.Design.Instances L)(U:AR At w H p.Design.Nets M)(V:AR C_Port w H p.Design.Ports N)(W:AR C_Wire w H p.Wires O)(l0:AR BH w H y.Reached P)(m0:AR C_Span w H y.Arrival Q)(n0:AR C_Span w H y.Slew R):
 Calls prog 24 [.agg #[K,L,M,N,O],.agg #[P,Q,R],.agg #[.i o.Setup,.i o.Hold,.i o.Uncertainty]].toArray w (DA fun H0 o0=>∃p0,H0=p0∧AB C_Check o0 w.heap.size (Iv 0 0) 84 J p0∧AJ w o0):=by
 unfold Zg at a;refine AA func24 z ntmps24 (Rc 2 (Ef z (AF z z) ?_));rintro _ o1 ⟨E,rfl,p1,q1,q0,i⟩;have r1:=q0.size;refine Ef z (AF z z) ?_;rintro _ s1 ⟨F,rfl,t1,u1,r0,q⟩;have⟨I0,v1⟩:=Et q0 r0;have i:=i.ext r0;refine Ef z (AF z z) ?_;rintro _ w1 ⟨G,rfl,x1,y1,s0,A⟩;have⟨J0,z1⟩:=Et I0 s0;have⟨i,q⟩:=CB i q s0;refine Ro 5 (Ef z (BM C_Check (([]:List Al)) [] z Ic NV z z trivial) ?_);rintro K0 I ⟨t0,u0,A1,B1,v0,X⟩;have⟨r,C1⟩:=Et J0 v0;have⟨i,q,A⟩:=FS i q A v0;have s:=BT u0;clear u0;refine Ro 5 (Yl z (CC z Ct i Ch) ?_);refine Cg a qW (fun _ t=>(W_j t (by omega) (S.oj r) (T.oj r) (U.oj r) (V.oj r) (W.oj r):)) ?_;rintro w0 a Y B ⟨_,L0,rfl,x0,y0⟩;have⟨M0,D1⟩:=Et r y0;have⟨i,q,A,X⟩:=JX i q A X y0;have z0:=AB.blk (own2.r x0);refine Ro 10 (WC.loopD (fun u C wl=>∃(v:List Al) (j:Value) (x:Int),Kn 47 [(3,.p E),(4,.p F),(5,.p G),(7,j),(8,Y),(9,.i x)] C∧AJ w wl∧B.heap.size<=wl.heap.size∧BK wl E [K,L,M,N,O] 53∧BK wl F [P,Q,R] 57∧BK wl G [.i o.Setup,.i o.Hold,.i o.Uncertainty] 59∧AB C_Check wl (t0) (Iv 0 0) 84 v j∧Bd j t0 wl.heap.size∧own2 (AL .i64) wl (I.heap.size) (B.heap.size) 85 2 w0 Y L0∧Nb j E∧Nb j F∧Nb j G∧Ns j I.heap.size B.heap.size∧No j Y∧Gx n p y o w0 (fun v x=>(some v)) u v x=some J) n ?_ ?_)
 ·intro C hK;exact⟨(([]:List Al)),K0,0,hK.sub z,M0,nr,i,q,A,X,(fun D hg=>by have:=s D hg;omega),(own2.wide x0),(Nb.of s),(Nb.of s),(Nb.of s),(Ns.of s),(No.of s z0),a⟩
 ·rintro u C E1 ⟨v,j,x,hK,k,F1,b,c,f,g,Z,d,a0,b0,c0,d0,A0,a⟩;refine By hK ?_;rcases u with _|u;exact Bx a;rw [Gx.eq_2]at a;refine Rc 5 (Yl z (Mg z JO (own2.r d)) (Ro 3 (Wc z a ?_ ?_)))
  ·intro a;refine Rc 8 (Io a (own2.r d) JO GQ ?_);rintro G1 H1 a _ ⟨I1,J1,rfl,K1,N0,O0⟩;obtain⟨L1,rfl,P0⟩:=N0;have l:=AD.mono P0 (S':=Iv I.heap.size B.heap.size) (fun M1 t=>⟨t.1,t.2.1⟩) (fun _ _=>z);refine Yl z (FG 0 z Ad O0 z z) (Ro 5 (Yl z (CC z Ct b Ch) (Yl z (CC z Fk c Ez) (Ro 1 ?_))));refine Cs a k qZ (fun _ t=>(wJ t nr (S.ph hH k) (T.ph hH k) (U.ph hH k) (V.ph hH k) (W.ph hH k) (l0.ph hH k) (m0.ph hH k) (n0.ph hH k) (l.wide (Nat.zero_le _)):)) ?_;rintro N1 a O1 Q0 ⟨B0,P1⟩;have⟨b,c,f,l,g,d⟩:=Lw b c f l g d Q0;refine Ro 2 (Wc z a ?_ ?_)
   ·intro a;have⟨e0,R0,a⟩:=AH a;have⟨f0,S0,a⟩:=AH a;have⟨g0,T0,a⟩:=AH a;have⟨h0,U0,a⟩:=AH a;have⟨V0,W0,a⟩:=AH a;refine CZ 17 Tryz.hm fun i0 C0 e=>?_;have⟨m,Q1⟩:=Et B0 C0;have⟨b,c,f,l,g,d⟩:=Lw b c f l g d C0;refine EP e [0,1] (GS 2 e z (EJ z Af Ap l R0) ?_);rintro _ ⟨R1,S1,_,rfl,T1,rfl,X0⟩;refine BO 3 e z (FG 0 z AI X0 z z) (EP e [4] (GS 5 e z (EJ z Af Ap l S0) ?_));rintro _ ⟨U1,V1,_,rfl,W1,rfl,Y0⟩;refine BO 6 e z (FG 0 z AI Y0 z z) (EP e [7] (GS 8 e z (EJ z Af Ap l T0) ?_));rintro _ ⟨X1,Y1,_,rfl,Z1,rfl,Z0⟩;refine BO 9 e z (FG 0 z AI Z0 z z) (BO 10 e z (CC z Ct b Ch) (BO 11 e z (CC z Fk c Ez) (BO 12 e z (CC z HV f Gt) (EP e [13] (Ka 14 z (FW z rM (yR U0 nr (S.ph hH m) (T.ph hH m) (U.ph hH m) (V.ph hH m) (W.ph hH m) (l0.ph hH m) (m0.ph hH m) (n0.ph hH m) (l.wide (Nat.zero_le _)):)) ?_)))));rintro _ a1 ⟨rfl,j0⟩;have D0:AJ i0 a1:=AJ.trans (AJ.refl i0) j0;have⟨b1,a2⟩:=Et m j0;have⟨b,c,f,g,d⟩:=Ee b c f g d j0;refine⟨D0,?_⟩;refine BO 15 e z (CD [.i e0,.i f0,.i g0,.i h0] z z RC XY z) (Ka 16 z (BM C_Check ([(Al.mk e0 f0 g0 h0)]) [[.i e0,.i f0,.i g0,.i h0]] z Ic NV z z ⟨IZ,trivial⟩) ?_);rintro b2 c1 ⟨c2,E0,d2,e2,k0,d1⟩;have e1:AJ i0 c1:=AJ.trans D0 k0;have⟨f1,f2⟩:=Et b1 k0;have⟨b,c,f,g,d⟩:=Ee b c f g d k0;have g2:=BT E0;clear E0;refine⟨e1,?_⟩;refine KD z (Ef z (BB (c:=C_Check) z Ic NV z z z z z g (by omega) (AB.slf d1 nr nr) W0) ?_);rintro g1 h2 ⟨F0,h⟩;have⟨h1,i2⟩:=Ge f1 h Z;have i1:Nb _ E:=Gb h a0;have b:=BN.box h b a0;have j1:Nb _ F:=Gb h b0;have c:=BN.box h c b0;have k1:Nb _ G:=Gb h c0;have f:=BN.box h f c0;have G0:=A0;have l1:=Gn h G0 z0;have m1:Ns _ I.heap.size B.heap.size:=Gs h d0;have d:=BN.own2 h d G0 (by omega) d0;have n1:=MX h F0 Z;refine Tr 1 (TL.noPan (l:=[]) (Re 8 ?_));intro C hK;exact⟨u,nr,V0,g1,(wrap .i64 (x+1)),hK.sub z,h1,(by omega),b,c,f,F0,(fun D hg=>by have:=n1 D hg;omega),(own2.wide d),i1,j1,k1,m1,l1,a⟩
   ·intro a;refine Rc 9 ?_;intro C hK;exact⟨u,nr,v,j,(wrap .i64 (x+1)),hK.sub z,B0,(by omega),b,c,f,g,(fun D hg=>by have:=Z D hg;omega),(own2.wide d),a0,b0,c0,d0,A0,a⟩
  ·intro a;cases BQ a;exact Rc 12 (Ne z z ⟨_,z,_,z,AB.base g,k⟩)
def UR(n:Nat)(a0:AQ)(a1:Int)(a2:Int):Option (Ah×Bool):=(GV n a1 0 (wrap .i64 (((a0.Design.Instances.length:Int))-1))).bind fun c=>cond (!c) (some ((Ah.mk 0 0 0 0 (([]:List AS)) (([]:List AS))),false)) ((AE a0.Design.Instances a1).bind fun h=>(AE a0.Library.Cells h.Cell).bind fun a=>(GV n a2 0 (wrap .i64 (((a.Arcs.length:Int))-1))).bind fun d=>(cond (!d) (some true) ((AE a.Arcs a2).bind fun i=>(cond (i.Kind !=4) ((AE a.Arcs a2).bind fun g=>some ((g.Kind !=5))) (some false)).bind fun e=>some e)).bind fun f=>cond f (some ((Ah.mk 0 0 0 0 (([]:List AS)) (([]:List AS))),false)) ((AE a.Arcs a2).bind fun b=>some (b,true)))
theorem AcG{f:AQ}{l m:Int}{d:Ah×Bool}{o p q r s:Value}(hF:UR n f l m=some d)(hH:H<=w.heap.size)(J:AR C_Cell w H f.Library.Cells o)(t:AR C_Instance w H f.Design.Instances p)(g0:AR At w H f.Design.Nets q)(h0:AR C_Port w H f.Design.Ports r)(i0:AR C_Wire w H f.Wires s):
 Calls prog 27 [.agg #[o,p,q,r,s],.i l,.i m].toArray w (DA fun K j=>∃u v,K= .tuple #[.agg #[.i d.1.Kind,.i d.1.From,.i d.1.To,.i d.1.Sense,u,v],.bool d.2]∧AR C_Table j H d.1.Delay u∧AR C_Table j H d.1.Slew v∧AJ w j):=by
 unfold UR at hF;refine AA func27 z ntmps27 (Rc 2 (Ef z (AF z z) ?_));rintro _ j0 ⟨k0,rfl,l0,m0,x,c⟩;have n0:=x.size;refine Ef z (AY z Ew) ?_;rintro _ o0 ⟨k,rfl,p0,q0,y,a⟩;have⟨A,r0⟩:=Et x y;have c:=c.ext y;refine Ro 7 (Yl z (BF z Bl) (Yl z (BF z Bq) (Yl z (Di z DP c z) (Yl z (Bs z DV (t.oj A)) (Ro 1 ?_)))));refine Cs hF A DK (fun _=>Ly) ?_;rintro s0 hF t0 L ⟨g,u0⟩;have⟨c,a⟩:=CB c a L;refine Ro 3 (Wc z hF ?_ ?_)
 ·intro hF;refine Rc 2 (Yl z (Cq (uss:=[]) (out:=[.i 0,.i 0,.i 0,.i 0,.slice none 0 0,.slice none 0 0]) z z Ew Tk z z) (Ef z (Cu z a BL z z) ?_));rintro _ v0 ⟨B,M⟩;have⟨N,w0⟩:=Eu g B;have c:=c.upd B (by omega);have a:=M;cases BQ hF;exact Ro 5 (NX.end (rs:=[.cell 6 88,.tmp 7]) (vs:=[.agg #[.i 0,.i 0,.i 0,.i 0,.slice none 0 0,.slice none 0 0],.bool false]) z ⟨⟨k,z,Ey Dz BL a⟩,z,trivial⟩ ⟨_,z,_,_,z,AD.nil _ _ _,AD.nil _ _ _,N⟩)
 ·intro hF;refine Rc 3 (BX Tryz.hm (Qy z (BF z De) (Qy z (BF z CH) (Qy z (Di z ED c z) (Qy z (BF z Bl) (Qy z (BF z Bq) (Qy z (Di z DP c z) (Qr 1 (Iq hF (t.oj g) DV Ba ?_)))))))));rintro x0 y0 hF _ ⟨z0,A0,B0,rfl,C0,O,P⟩;obtain⟨D0,rfl,E0⟩:=As O;refine KW CY AI P (Iq hF (J.oj g) EA BA ?_);rintro F0 G0 hF _ ⟨H0,I0,J0,rfl,K0,Q,R⟩;obtain⟨L0,M0,N0,rfl,O0,b,P0⟩:=BV Q;refine KW Be Cd R (Qr 1 ?_);refine QL.done fun Q0 C=>?_;have⟨S,R0⟩:=Et g C;have⟨a,b⟩:=CB a b C;refine Re 6 (Yl z (Bs z Bj b) (Ro 1 ?_));refine Cs hF S DK (fun _=>Ly) ?_;rintro S0 hF T0 T ⟨D,U0⟩;have⟨a,b⟩:=CB a b T;refine Ro 2 (Pi 15 [2,6,8] 52 37 hF ?_ ?_)
  ·intro U hF;refine Ro 2 (Ix hF b Bj BL ?_);rintro V0 W0 hF _ ⟨X0,Y0,Z0,rfl,a1,V,W⟩;obtain⟨b1,c1,rfl,d1,e1⟩:=BP V;refine Fc Bo AI W (Ro 2 (JB 7 [2,6,8,37] 51 44 hF ?_ ?_))
   ·intro X hF;refine Ro 2 (Ix hF b Bj BL ?_);rintro f1 g1 hF _ ⟨h1,i1,j1,rfl,k1,Y,Z⟩;obtain⟨l1,m1,rfl,n1,o1⟩:=BP Y;refine Fc Bo AI Z (Ro 1 ?_);cases BQ hF;exact Ro 1 (DI)
   intro X hF;cases BQ hF;exact Ro 1 (DI)
  intro U hF;refine Ro 2 (Wc z hF ?_ ?_)
  ·intro hF;refine Rc 2 (Yl z (Cq (uss:=[]) (out:=[.i 0,.i 0,.i 0,.i 0,.slice none 0 0,.slice none 0 0]) z z Ew Tk z z) (Ef z (Cu z a BL z z) ?_));rintro _ p1 ⟨E,a0⟩;have⟨b0,q1⟩:=Eu D E;have b:=b.upd E (by omega);have a:=a0;cases BQ hF;exact Ro 5 (NX.end (rs:=[.cell 6 88,.tmp 7]) (vs:=[.agg #[.i 0,.i 0,.i 0,.i 0,.slice none 0 0,.slice none 0 0],.bool false]) z ⟨⟨k,z,Ey Dz BL a⟩,z,trivial⟩ ⟨_,z,_,_,z,AD.nil _ _ _,AD.nil _ _ _,b0⟩)
  ·intro hF;refine Rc 6 (Ix hF b Bj BL ?_);rintro e r1 hF _ ⟨s1,t1,u1,rfl,v1,c0,d0⟩;obtain⟨F,G,rfl,h,i⟩:=BP c0;refine Yl z (CJ (us:=[.i e.Kind,.i e.From,.i e.To,.i e.Sense,F,G]) z Dz d0 BL) (Ef z (Cu z a BL (AC z (AC z (AC z (AC z (AC (AD.one h) (AC (AD.one i) Aw)))))) z) ?_);rintro _ w1 ⟨I,e0⟩;have⟨f0,x1⟩:=Eu D I;have⟨h,i⟩:=Ky h i I;have a:=e0;cases BQ hF;exact Ro 4 (NX.end (rs:=[.cell 6 88,.tmp 7]) (vs:=[.agg #[.i e.Kind,.i e.From,.i e.To,.i e.Sense,F,G],.bool true]) z ⟨⟨k,z,Ey Dz BL a⟩,z,trivial⟩ ⟨_,z,_,_,z,h,i,f0⟩)
def GP(n:Nat)(a0:AQ)(a1:Ac)(r55:List Al)(i83:Int)(k2:Bool->Int->Int->Int->Int->Option ((List AG)×Int)):Nat->Bool->Int->Int->Int->Int->Option ((List AG)×Int)
 |0,_,_,_,_,_=>none
 |m+1,h,a,b,d,c=>cond (decide (a<(r55.length:Int))) ((AE r55 a).bind fun o=>(AE r55 a).bind fun A=>(AE r55 a).bind fun k=>(Qg n a0 ([o.Instance,A.Arc,k.Transition])).bind fun s=>(AE r55 a).bind fun u=>(AE r55 a).bind fun r=>(UR n a0 u.Instance r.Arc).bind fun x=>cond (s.1 !=i83) (GP n a0 a1 r55 i83 k2 m h (wrap .i64 (a+1)) b d c) ((AE a1.Arrival i83).bind fun g=>(AE r55 a).bind fun i=>(AE a1.Arrival i83).bind fun e=>(AE r55 a).bind fun f=>cond (x.1.Kind==4) ((GV n (-1000000000) (-1000000000) 1000000000).bind fun t=>(cond (!t) (some true) ((GV n (wrap .i64 (e.Late+f.Slack)) (-1000000000) 1000000000).bind fun y=>some (!y))).bind fun l=>cond l (some (([]:List AG),3)) (GP n a0 a1 r55 i83 k2 m true (wrap .i64 (a+1)) b (max d (-1000000000)) (min c (wrap .i64 (e.Late+f.Slack))))) ((GV n (wrap .i64 (g.Early-i.Slack)) (-1000000000) 1000000000).bind fun v=>(cond (!v) (some true) ((GV n 1000000000 (-1000000000) 1000000000).bind fun j=>some (!j))).bind fun p=>cond p (some (([]:List AG),3)) (GP n a0 a1 r55 i83 k2 m true (wrap .i64 (a+1)) b (max d (wrap .i64 (g.Early-i.Slack))) (min c 1000000000))))) (k2 h a b d c)
def Fu(n:Nat)(a0:AQ)(a1:Ac)(r55:List Al)(k0:(List AG)->Int->Option ((List AG)×Int)):Nat->(List AG)->Int->Option ((List AG)×Int)
 |0,_,_=>none
 |m+1,b,a=>(VN n a0).bind fun h=>cond (decide (a<h)) (GP n a0 a1 r55 a (fun c i e g f=>cond c ((Dj b ([(AG.mk e ((AV.mk g f)))]) 24).bind fun d=>Fu n a0 a1 r55 k0 m d (wrap .i64 (a+1))) (Fu n a0 a1 r55 k0 m b (wrap .i64 (a+1)))) n false 0 a (-1000000000) 1000000000) (k0 b a)
def sH(n:Nat)(a0:AQ)(a1:Ac)(a2:Aj):Option ((List AG)×Int):=(Ua n a0 a1 a2).bind fun a=>cond (a !=0) (some (([]:List AG),a)) ((Zg n a0 a1 a2).bind fun b=>Fu n a0 a1 b (fun c d=>some (c,0)) n (([]:List AG)) 0)
theorem W_a{s:AQ}{E:Ac}{Z:Aj}{P:(List AG)×Int}{a0 b0 c0 d0 e0 f0 g0 h0:Value}(a:sH n s E Z=some P)(hH:H<=w.heap.size)(Q:AR C_Cell w H s.Library.Cells a0)(R:AR C_Instance w H s.Design.Instances b0)(S:AR At w H s.Design.Nets c0)(T:AR C_Port w H s.Design.Ports d0)(U:AR C_Wire w H s.Wires e0)(C0:AR BH w H E.Reached f0)(i0:AR C_Span w H E.Arrival g0)(D0:AR C_Span w H E.Slew h0):
 Calls prog 6 [.agg #[a0,b0,c0,d0,e0],.agg #[f0,g0,h0],.agg #[.i Z.Setup,.i Z.Hold,.i Z.Uncertainty]].toArray w (DA fun C1 E0=>∃F0,C1= .tuple #[F0,.i P.2]∧AB C_Target E0 w.heap.size (Iv 0 0) 80 P.1 F0∧AJ w E0):=by
 unfold sH at a;refine AA func6 z ntmps6 (Rc 2 (Ef z (AF z z) ?_));rintro _ b3 ⟨F,rfl,c3,d3,G0,g⟩;have e3:=G0.size;refine Ef z (AF z z) ?_;rintro _ f3 ⟨G,rfl,g3,h3,H0,i⟩;have⟨D1,i3⟩:=Et G0 H0;have g:=g.ext H0;refine Ef z (AF z z) ?_;rintro _ j3 ⟨k3,rfl,l3,m3,I0,I⟩;have⟨r,n3⟩:=Et D1 I0;have⟨g,i⟩:=CB g i I0;refine Ro 7 (Yl z (CC z Ct g Ch) (Yl z (CC z Fk i Ez) (Yl z (CC z HV I Gt) ?_)));refine Cs a r rW (fun _ V=>(AbC V (by omega) (Q.oj r) (R.oj r) (S.oj r) (T.oj r) (U.oj r) (C0.oj r) (i0.oj r) (D0.oj r):)) ?_;rintro o3 a J0 E1 ⟨m,p3⟩;have⟨g,i,I⟩:=FS g i I E1;refine Ro 9 (Wc z a ?_ ?_)
 ·intro a;refine Rc 2 (Ef z (BM C_Target (([]:List AG)) [] z Cz Ln z z trivial) ?_);rintro q3 r3 ⟨s3,K0,t3,u3,L0,F1⟩;have⟨G1,v3⟩:=Et m L0;have⟨g,i,I⟩:=FS g i I L0;have w3:=BT K0;clear K0;cases BQ a;exact Ro 7 (Ne z z ⟨_,z,_,z,AB.base F1,G1⟩)
 ·intro a;refine Rc 4 (Yl z (CC z Ct g Ch) (Yl z (CC z Fk i Ez) (Yl z (CC z HV I Gt) ?_)));refine Cg a oV (fun _ V=>(AaT V (by omega) (Q.oj m) (R.oj m) (S.oj m) (T.oj m) (U.oj m) (C0.oj m) (i0.oj m) (D0.oj m):)) ?_;rintro j0 a W x3 ⟨_,rfl,k0,M0⟩;have⟨H1,y3⟩:=Et m M0;have⟨g,i⟩:=CB g i M0;have J:=AB.blk k0;refine Ro 5 (Ef z (BM C_Target (([]:List AG)) [] z Cz Ln z z trivial) ?_);rintro I1 J1 ⟨o0,N0,z3,A3,O0,K1⟩;have⟨L1,B3⟩:=Et H1 O0;have⟨g,i,k0⟩:=FS g i k0 O0;have l0:=BT N0;clear N0;refine Ro 10 (WC.loopD (fun K j wl=>∃(y:List AG) (o:Value) (l:Int),Kn 142 [(3,.p F),(4,.p G),(9,W),(10,o),(11,.i l)] j∧AJ w wl∧J1.heap.size<=wl.heap.size∧BK wl F [a0,b0,c0,d0,e0] 53∧BK wl G [f0,g0,h0] 57∧AB C_Target wl (o0) (Iv 0 0) 80 y o∧Bd o o0 wl.heap.size∧AB C_Check wl (J0.heap.size) (Iv 0 0) 84 j0 W∧Nb o F∧Nb o G∧No o W∧Fu n s E j0 (fun y l=>(some (y,0))) K y l=some P) n ?_ ?_)
  ·intro j hK;exact⟨(([]:List AG)),I1,0,hK.sub z,L1,nr,g,i,K1,(fun X hg=>by have:=l0 X hg;omega),k0,(Nb.of l0),(Nb.of l0),(No.of l0 J),a⟩
  ·rintro K j C3 ⟨y,o,l,hK,L,D3,t,A,u,B,C,p0,q0,P0,a⟩;refine By hK ?_;rcases K with _|K;exact Bx a;rw [Fu.eq_2]at a;refine Rc 4 (Yl z (CC z Ct t Ch) ?_);refine Cs a L fV (fun _ V=>(sE V (by omega) (Q.oj L) (R.oj L) (S.oj L) (T.oj L) (U.oj L):)) ?_;rintro E3 a F3 M1 ⟨Q0,G3⟩;have⟨t,A,u,C⟩:=JX t A u C M1;refine Ro 3 (Wc z a ?_ ?_)
   ·intro a;refine Rc 12 (Yl z (CD [.i (-1000000000),.i 1000000000] z z En Ip z) (Yl z (Cq (uss:=[(0,[.i l]),(1,[.i (-1000000000),.i 1000000000])]) (out:=[.i l,.i (-1000000000),.i 1000000000]) z z Yz fT z z) (Ef z (AY z Yz) ?_)));rintro _ H3 ⟨R0,rfl,I3,J3,S0,r0⟩;have⟨N1,K3⟩:=Et Q0 S0;have⟨t,A,u,C⟩:=JX t A u C S0;refine Ef z (Cu z r0 DJ z z) ?_;rintro _ O1 ⟨T0,P1⟩;have⟨Q1,L3⟩:=Eu N1 T0;have⟨t,A,u,C⟩:=OK t A (Bi u B) (Bi C J) T0;have r0:=P1;have⟨R1,S1,a⟩:=GkF a;refine Ro 9 (WC.loopD (fun D j wl=>∃(m0:Bool) (M v p q:Int),Kn 142 [(3,.p F),(4,.p G),(9,W),(10,o),(11,.i l),(12,.bool m0),(13,.p R0),(14,.i M)] j∧AJ w wl∧O1.heap.size<=wl.heap.size∧BK wl F [a0,b0,c0,d0,e0] 53∧BK wl G [f0,g0,h0] 57∧BK wl R0 [.i v,.i p,.i q] 80∧AB C_Check wl (J0.heap.size) (Iv 0 0) 84 j0 W∧AB C_Target wl (o0) (Iv 0 0) 80 y o∧GP n s E j0 l R1 D m0 M v p q=some P) n ?_ ?_)
    ·intro j hK;exact⟨false,0,l,(-1000000000),1000000000,hK.sub z,Q1,nr,t,A,r0,C,u,a⟩
    ·rintro D j M3 ⟨m0,M,v,p,q,hK,s0,N3,c,d,e,b,f,a⟩;refine By hK ?_;rcases D with _|D;exact Bx a;rw [GP.eq_2]at a;refine Rc 5 (Yl z (Mg z Ic b) (Ro 3 (Wc z a ?_ ?_)))
     ·intro a;have⟨U0,T1,a⟩:=AH a;have⟨V0,U1,a⟩:=AH a;have⟨W0,V1,a⟩:=AH a;have⟨O3,W1,a⟩:=AH a;refine Rc 5 ?_;refine CZ 22 Tryz.hm fun t0 X0 h=>?_;have⟨X1,P3⟩:=Et s0 X0;have⟨c,d,e,b,f⟩:=Ee c d e b f X0;refine BO 0 h z (CC z Ct c Ch) (EP h [1,2] (GS 3 h z (Rm z Ic Fg b T1) ?_));rintro _ ⟨Q3,R3,rfl,S3,Y1,Z1⟩;obtain rfl:=Cl Y1;refine BO 4 h z (BF z Ht) (BO 5 h z (FG 0 z AI Z1 z z) (EP h [6,7] (GS 8 h z (Rm z Ic Fg b U1) ?_)));rintro _ ⟨T3,U3,rfl,V3,a2,b2⟩;obtain rfl:=Cl a2;refine BO 9 h z (BF z Js) (BO 10 h z (FG 1 z AI b2 z z) (EP h [11,12] (GS 13 h z (Rm z Ic Fg b V1) ?_)));rintro _ ⟨W3,X3,rfl,Y3,c2,d2⟩;obtain rfl:=Cl c2;refine BO 14 h z (BF z PZ) (BO 15 h z (FG 2 z AI d2 z z) (Ka 16 z (BM (AL .i64) ([U0.Instance,V0.Arc,W0.Transition]) [[.i U0.Instance],[.i V0.Arc],[.i W0.Transition]] z Af GU z z ⟨z,z,z,trivial⟩) ?_));rintro Z3 e2 ⟨a4,Y0,b4,c4,u0,f2⟩;have Z0:AJ t0 e2:=AJ.trans (AJ.refl t0) u0;have⟨N,d4⟩:=Et X1 u0;have⟨c,d,e,b,f⟩:=Ee c d e b f u0;have e4:=BT Y0;clear Y0;refine⟨Z0,?_⟩;refine Ka 17 z (FW z YP (lJ W1 nr (Q.ph hH N) (R.ph hH N) (S.ph hH N) (T.ph hH N) (U.ph hH N) (AB.slf f2 (Nat.zero_le _) nr):)) ?_;rintro _ g2 ⟨rfl,v0⟩;have h2:AJ t0 g2:=AJ.trans Z0 v0;have⟨i2,f4⟩:=Et N v0;have⟨c,d,e,b,f⟩:=Ee c d e b f v0;refine⟨h2,?_⟩;refine EP h [18,19,20,21] (KD z (Tr 1 (TL.noPan (l:=[]) (Re 2 ?_))));have⟨g4,j2,a⟩:=AH a;have⟨h4,k2,a⟩:=AH a;have⟨i4,l2,a⟩:=AH a;refine CZ 17 Tryz.hm fun a1 b1 k=>?_;have⟨m2,j4⟩:=Et i2 b1;have⟨c,d,e,b,f⟩:=Ee c d e b f b1;refine BO 0 k z (CC z Ct c Ch) (EP k [1,2] (GS 3 k z (Rm z Ic Fg b j2) ?_));rintro _ ⟨k4,l4,rfl,m4,n2,o2⟩;obtain rfl:=Cl n2;refine BO 4 k z (BF z Ht) (BO 5 k z (FG 0 z AI o2 z z) (EP k [6,7] (GS 8 k z (Rm z Ic Fg b k2) ?_)));rintro _ ⟨n4,o4,rfl,p4,p2,q2⟩;obtain rfl:=Cl p2;refine BO 9 k z (BF z Js) (BO 10 k z (FG 1 z AI q2 z z) ?_);refine oS 15 z z Ew fun _ _ _ _ _ _=>?_;refine rT 11 z (by kernel_rfl) ?_;rintro c1 w0;have⟨O,q4⟩:=Et m2 w0;have⟨c,d,e,b,f⟩:=Ee c d e b f w0;refine⟨_,(FW z tK (AcG l2 (by omega) (Q.oj O) (R.oj O) (S.oj O) (T.oj O) (U.oj O):)),?_⟩;rintro _ r2 ⟨r4,s4,rfl,x0,y0,z0⟩;have d1:AJ c1 r2:=AJ.trans (AJ.refl c1) z0;have⟨s2,t4⟩:=Et O z0;have⟨c,d,e,b,f⟩:=Ee c d e b f z0;refine⟨d1,?_⟩;refine Va 12 k z (by kernel_rfl) (JJ z z) (Va 13 k z (by kernel_rfl) (DD z z z) (Va 14 k z (by kernel_rfl) (DD z z z) (YX (by kernel_rfl) ?_)));rintro u4 v4 A0 w4 Y ⟨x4,_⟩;have⟨t2,y4⟩:=Et s2 A0;have⟨c,d,e,x0,y0,b,f⟩:=TP c d e x0 y0 b f A0;refine Ka 16 z (Cu z Y BL (AC z (AC z (AC z (AC z (AC (AD.one x0) (AC (AD.one y0) Aw)))))) z) ?_;rintro _ u2 ⟨B0,v2⟩;have w2:AJ a1 u2:=Below.trans (AJ.trans (AJ.trans (AJ.trans (AJ.refl a1) w0) d1) A0) (Gi.below B0 (by omega));have⟨n0,z4⟩:=Eu t2 B0;have⟨c,d,e,b,f⟩:=Ou c d e (Bi b J) (Bi f B) B0;have Y:=v2;refine⟨w2,?_⟩;refine KD z (Tr 1 (TL.noPan (l:=[]) (Re 9 (Wc z a ?_ ?_))))
      ·intro a;refine Rc 10 ?_;intro j hK;exact⟨D,nr,m0,(wrap .i64 (M+1)),v,p,q,hK.sub z,n0,(by omega),c,d,e,b,f,a⟩
      ·intro a;refine Rc 3 (BX Tryz.hm (Fq CG CV d (Qr 1 (Iq a (i0.oj n0) Da BY ?_))));rintro e1 A4 a _ ⟨B4,C4,D4,rfl,E4,x2,y2⟩;obtain rfl:=Aq x2;refine KW Bb AI y2 (Qr 2 (yV a b Ic Fg ?_));rintro f1 F4 a _ ⟨G4,H4,rfl,I4,z2,A2⟩;obtain rfl:=Cl z2;refine KW IL AI A2 (Qr 1 (Fq CG CV d (Qr 1 (Iq a (i0.oj n0) Da BY ?_))));rintro g1 J4 a _ ⟨K4,L4,M4,rfl,N4,B2,C2⟩;obtain rfl:=Aq B2;refine KW BW AI C2 (Qr 2 (yV a b Ic Fg ?_));rintro h1 O4 a _ ⟨P4,Q4,rfl,R4,D2,E2⟩;obtain rfl:=Cl D2;refine KW IL AI E2 (Qr 3 ?_);refine QL.done fun S4 i1=>?_;have⟨j1,T4⟩:=Et n0 i1;have⟨c,d,e,Y,b,f⟩:=Lw c d e Y b f i1;refine Re 4 (Fl Bo AI Y (Ro 3 (Wc z a ?_ ?_)))
       ·intro a;refine Rc 8 (Cs a j1 DK (fun _=>Ly) ?_);rintro U4 a V4 F2 ⟨k1,W4⟩;have⟨c,d,e,b,f⟩:=Ee c d e b f F2;refine Ro 2 (Lz 4 [3,4,9,10,11,13,14,19,20] 122 118 a ?_ ?_)
        ·intro G2 a;refine Ro 1 (Cs a k1 DK (fun _=>Ly) ?_);rintro X4 a Y4 l1 ⟨Z4,a5⟩;have⟨c,d,e,b,f⟩:=Ee c d e b f l1;cases BQ a;exact Ro 1 (Ro 1 (DU l1))
        intro G2 a;intro b5 m1;have⟨n1,c5⟩:=Et k1 m1;have⟨c,d,e,b,f⟩:=Ee c d e b f m1;refine Ro 2 (Wc z a ?_ ?_)
        ·intro a;refine Rc 2 (Ef z (BM C_Target (([]:List AG)) [] z Cz Ln z z trivial) ?_);rintro d5 e5 ⟨f5,o1,g5,h5,p1,H2⟩;have⟨I2,i5⟩:=Et n1 p1;have⟨c,d,e,b,f⟩:=Ee c d e b f p1;have j5:=BT o1;clear o1;cases BQ a;exact Ro 16 (Ne z z ⟨_,z,_,z,AB.base H2,I2⟩)
        ·intro a;refine Rc 8 (Yl z (BF z Dw) (Yl z (BF z Bb) (Yl z (Di z AI e z) (Ro 1 (Yl z (GI z z z) (Yl z (BF z Dw) (Yl z (BF z BW) (Yl z (Di z AI e z) (Ro 1 (Yl z (Ff z z z) (Yl z (CD [.i (max p (-1000000000)),.i (min q (wrap .i64 (g1.Late+h1.Slack)))] z z En Ip z) (Yl z (BF z Dw) (Ef z (Cu z e BY z z) ?_)))))))))))));rintro _ k5 ⟨q1,J2⟩;have⟨K2,l5⟩:=Eu n1 q1;have⟨c,d,b,f⟩:=OK c d (Bi b J) (Bi f B) q1;have e:=J2;refine Ro 9 ?_;intro j hK;exact⟨D,nr,true,(wrap .i64 (M+1)),v,(max p (-1000000000)),(min q (wrap .i64 (g1.Late+h1.Slack))),hK.sub z,K2,(by omega),c,d,e,b,f,a⟩
       ·intro a;refine Rc 8 (Cs a j1 DK (fun _=>Ly) ?_);rintro m5 a n5 L2 ⟨r1,o5⟩;have⟨c,d,e,b,f⟩:=Ee c d e b f L2;refine Ro 2 (Lz 4 [3,4,9,10,11,13,14,19,20] 122 118 a ?_ ?_)
        ·intro M2 a;refine Ro 1 (Cs a r1 DK (fun _=>Ly) ?_);rintro p5 a q5 s1 ⟨r5,s5⟩;have⟨c,d,e,b,f⟩:=Ee c d e b f s1;cases BQ a;exact Ro 1 (Ro 1 (DU s1))
        intro M2 a;intro t5 t1;have⟨u1,u5⟩:=Et r1 t1;have⟨c,d,e,b,f⟩:=Ee c d e b f t1;refine Ro 2 (Wc z a ?_ ?_)
        ·intro a;refine Rc 2 (Ef z (BM C_Target (([]:List AG)) [] z Cz Ln z z trivial) ?_);rintro v5 w5 ⟨x5,v1,y5,z5,w1,N2⟩;have⟨O2,A5⟩:=Et u1 w1;have⟨c,d,e,b,f⟩:=Ee c d e b f w1;have B5:=BT v1;clear v1;cases BQ a;exact Ro 16 (Ne z z ⟨_,z,_,z,AB.base N2,O2⟩)
        ·intro a;refine Rc 8 (Yl z (BF z Dw) (Yl z (BF z Bb) (Yl z (Di z AI e z) (Ro 1 (Yl z (GI z z z) (Yl z (BF z Dw) (Yl z (BF z BW) (Yl z (Di z AI e z) (Ro 1 (Yl z (Ff z z z) (Yl z (CD [.i (max p (wrap .i64 (e1.Early-f1.Slack))),.i (min q 1000000000)] z z En Ip z) (Yl z (BF z Dw) (Ef z (Cu z e BY z z) ?_)))))))))))));rintro _ C5 ⟨x1,P2⟩;have⟨Q2,D5⟩:=Eu u1 x1;have⟨c,d,b,f⟩:=OK c d (Bi b J) (Bi f B) x1;have e:=P2;refine Ro 9 ?_;intro j hK;exact⟨D,nr,true,(wrap .i64 (M+1)),v,(max p (wrap .i64 (e1.Early-f1.Slack))),(min q 1000000000),hK.sub z,Q2,(by omega),c,d,e,b,f,a⟩
     ·intro a;refine Rc 3 ?_
      subst S1
      refine Re 7 (Wc z a ?_ ?_)
      ·intro a;refine Rc 2 (Yl z (CC z QD e DJ) (Ef z (BM C_Target ([(AG.mk v ((AV.mk p q)))]) [[.i v,.i p,.i q]] z Cz Ln z z ⟨DE,trivial⟩) ?_));rintro E5 F5 ⟨G5,y1,H5,I5,z1,R2⟩;have⟨S2,J5⟩:=Et s0 z1;have⟨c,d,b,f⟩:=JX c d b f z1;have K5:=BT y1;clear y1;have⟨T2,U2,a⟩:=AH a;refine Ef z (BB (c:=C_Target) z Cz Ln z z z z z f (by omega) (AB.slf R2 nr nr) U2) ?_;rintro V2 L5 ⟨A1,x⟩;have⟨W2,M5⟩:=Ge S2 x B;have X2:Nb _ F:=Gb x p0;have c:=BN.box x c p0;have Y2:Nb _ G:=Gb x q0;have d:=BN.box x d q0;have B1:=P0;have Z2:=Gn x B1 J;have b:=BN.ownF x b B1;have a3:=MX x A1 B;refine Ro 10 ?_;intro j hK;exact⟨K,nr,T2,V2,(wrap .i64 (l+1)),hK.sub z,W2,(by omega),c,d,A1,(fun X hg=>by have:=a3 X hg;omega),b,X2,Y2,Z2,a⟩
      ·intro a;refine Rc 9 ?_;intro j hK;exact⟨K,nr,y,o,(wrap .i64 (l+1)),hK.sub z,s0,(by omega),c,d,f,(fun X hg=>by have:=B X hg;omega),b,p0,q0,P0,a⟩
   ·intro a;cases BQ a;exact Rc 13 (Ne z z ⟨_,z,_,z,AB.base u,Q0⟩)
end Go.Proofs.YtjpcjanfamdmiaaGreatDoor
