/- The walks: every function that FnTotalSlack reaches computes the plain function that is typed beside it; no condition. -/
import Derived.Test.YthojemmmflaicabGreatDoorWalkFnTotalSlackB0
import Derived.Test.YthojemmmflaicabGreatDoorWalkFnTotalSlackL0
import Derived.Test.YthojemmmflaicabGreatDoorWalkFnTotalSlackS2
import Derived.Test.YthojemmmflaicabGreatDoorWalkFnTotalSlackI0
set_option linter.all false
set_option maxRecDepth 20000
set_option maxHeartbeats 40000000
namespace Go.Proofs.YthojemmmflaicabGreatDoor
open Go Go.RowKit Go.Eng Go.Proofs.Tryz
open Go.IntKind (wrap)
variable {n H:Nat} {w:World}
def JG(n:Nat)(r9:AG×Ad×BB×(List Aj)×Int)(k0:Bool->Int->Option Unit):Nat->Bool->Int->Option Unit
 |0,_,_=>none
 |m+1,c,a=>cond (decide (a<(r9.2.2.2.1.length:Int))) ((AO r9.2.2.2.1 a).bind fun d=>(Vc n r9.1 r9.2.1 r9.2.2.1 d.Node r9.2.2.2.2).bind fun b=>JG n r9 k0 m ((c||((((b.2==0))&&(decide (b.1<0)))))) (wrap .i64 (a+1))) (k0 c a)
def XV(n:Nat)(O_:Me)(a0:List Int)(g_:Bool->Option Unit):Option Unit:=(Wp n a0).bind fun f=>cond f (g_ true) (Xh n O_ a0 fun b=>(UI n b.1 b.2.1 b.2.2.1 b.2.2.2.1 b.2.2.2.2).bind fun a=>(Vd n b.1 b.2.1 b.2.2.1 b.2.2.2.1 b.2.2.2.2).bind fun c=>cond (((a.2 !=c.2))||((a.1 !=c.1))) (g_ false) (cond (a.2 !=0) (g_ true) (JG n b (fun d e=>g_ (((decide (a.1<=0))&&(((decide (a.1<0))==d))))) n false 0)))
theorem tD{O_:Me}{V:List Int}{g_:Bool->Option Unit}{W:Value}(hF:XV n O_ V g_=some ())(hH:H<=w.heap.size)(X:Ai (AI .u8) w H V W):
 Calls prog 3 [W].toArray w (Dm fun d0 e0=>∃Y:Bool,d0= .bool Y∧AM w e0∧g_ Y=some ()):=by
 have Z:=AM.refl w;unfold XV at hF;refine AE func3 z ntmps3 (Rc 9 (Cs hF Z oF (fun _ r=>(mP r (by omega) (X.oj Z):)) ?_));rintro F0 hF G0 H0 ⟨B,I0⟩;refine Ro 2 (Wc z hF ?_ ?_)
 ·intro hF;exact Rc 7 (Ne z z ⟨_,z,true,z,B,hF⟩)
 ·intro hF;refine Rc 5 (Ef z (CT z mG (mN hF (by omega) (X.oj B):)) ?_);rintro _ J0 ⟨a0,K0,L0,M0,N0,O0,P0,Q0,R0,S0,T0,f0,rfl,a,b,c,d,i,e,f,j,g,k,h,U0,V0,W0,X0,Y0,Z0,a1,b1,c1,d1,e1,f1,g1,h1,i1,j1,k1,l1,m1,n1,o1,p1,q1,r1,s1,t1,u1,v1,g0,hF⟩;have⟨h0,w1⟩:=Et B g0;have C:=AC.blk a;have D:=AC.blk b;have E:=AC.blk c;have F:=AC.blk d;have G:=AC.blk e;have I:=AC.blk f;have J:=AC.blk g;have K:=AC.blk h;refine Ro 6 (Ef z (AF z JV) ?_);rintro _ x1 ⟨i0,rfl,y1,z1,L,l⟩;have⟨j0,A1⟩:=Et h0 L;have⟨i,j,k,a,b,c,d,e⟩:=CN i j k a b c d e L;have⟨f,g,h⟩:=DW f g h L;refine Ef z (AF z Ea) ?_;rintro _ B1 ⟨k0,rfl,C1,D1,M,m⟩;have⟨l0,E1⟩:=Et j0 M;have⟨l,i,j,k,a,b,c,d⟩:=CN l i j k a b c d M;have⟨e,f,g,h⟩:=DE e f g h M;refine Ef z (AF z DV) ?_;rintro _ F1 ⟨m0,rfl,G1,H1,N,o⟩;have⟨n0,I1⟩:=Et l0 N;have⟨l,m,i,j,k,a,b,c⟩:=CN l m i j k a b c N;have⟨d,e,f,g,h⟩:=EI d e f g h N;refine Ef z (BW z l An (AB (AD.one (AC.slN a nr nr)) (AB (AD.one (AC.slN b nr nr)) (AB c.one (AB d.one (AB (AD.one i) AV))))) z) ?_;rintro _ J1 ⟨O,o0⟩;have⟨p0,K1⟩:=Eu n0 O;have⟨m,o,i,j,k,a,b,c⟩:=EM m o i j k (AJ a C) (AJ b D) (AJ c E) O;have⟨d,e,f,g,h⟩:=GI (AJ d F) (AJ e G) (AJ f I) (AJ g J) (AJ h K) O;have l:=o0;refine Ef z (BW z m Bn (AB e.one (AB f.one (AB (AD.one j) AV))) z) ?_;rintro _ L1 ⟨P,q0⟩;have⟨r0,M1⟩:=Eu p0 P;have⟨l,o,i,j,k,a,b,c⟩:=EM l o i j k (AJ a C) (AJ b D) (AJ c E) P;have⟨d,e,f,g,h⟩:=GI (AJ d F) (AJ e G) (AJ f I) (AJ g J) (AJ h K) P;have m:=q0;refine Ef z (BW z o CH (AB g.one (AB (AD.one k) AV)) z) ?_;rintro _ N1 ⟨Q,s0⟩;have⟨t0,O1⟩:=Eu r0 Q;have⟨l,m,i,j,k,a,b,c⟩:=EM l m i j k (AJ a C) (AJ b D) (AJ c E) Q;have⟨d,e,f,g,h⟩:=GI (AJ d F) (AJ e G) (AJ f I) (AJ g J) (AJ h K) Q;have o:=s0;refine Ro 6 (Yl z (BQ z Az l An) (Yl z (BQ z Co m Bn) (Yl z (BQ z EA o CH) (Ro 2 ?_))));refine Cg hF oO (fun _ r=>(jV r nr (AC.slN a (Nat.zero_le _) nr) (AC.slN b (Nat.zero_le _) nr) (AC.slf c (Nat.zero_le _) nr) (AC.slf d (Nat.zero_le _) nr) (i.wide (Nat.zero_le _)) (AC.slf e (Nat.zero_le _) nr) (AC.slf f (Nat.zero_le _) nr) (j.wide (Nat.zero_le _)) (AC.slf g (Nat.zero_le _) nr) (k.wide (Nat.zero_le _)) (AC.slf h (Nat.zero_le _) nr):)) ?_;rintro t hF _ P1 ⟨rfl,R⟩;have⟨u0,Q1⟩:=Et t0 R;have⟨l,m,o,i,j,k,a,b⟩:=CN l m o i j k a b R;have⟨c,d,e,f,g,h⟩:=Fv c d e f g h R;refine Ro 10 (Yl z (BQ z Az l An) (Yl z (BQ z Co m Bn) (Yl z (BQ z EA o CH) (Ro 2 ?_))));refine Cg hF pG (fun _ r=>(nG r nr (AC.slN a (Nat.zero_le _) nr) (AC.slN b (Nat.zero_le _) nr) (AC.slf c (Nat.zero_le _) nr) (AC.slf d (Nat.zero_le _) nr) (i.wide (Nat.zero_le _)) (AC.slf e (Nat.zero_le _) nr) (AC.slf f (Nat.zero_le _) nr) (j.wide (Nat.zero_le _)) (AC.slf g (Nat.zero_le _) nr) (k.wide (Nat.zero_le _)) (AC.slf h (Nat.zero_le _) nr):)) ?_;rintro R1 hF _ v0 ⟨rfl,S⟩;have⟨T,S1⟩:=Et u0 S;have⟨l,m,o,i,j,k,a,b⟩:=CN l m o i j k a b S;have⟨c,d,e,f,g,h⟩:=Fv c d e f g h S;refine Ro 13 (aO 4 [3,4,5,6,7,8,9] 51 47 ?_);refine Ro 2 (Wc z hF ?_ ?_)
  ·intro hF;exact Rc 7 (Ne z z ⟨_,z,false,z,T,hF⟩)
  ·intro hF;refine Rc 9 (Wc z hF ?_ ?_)
   ·intro hF;exact Rc 7 (Ne z z ⟨_,z,true,z,T,hF⟩)
   ·intro hF;have⟨w0,x0,hF⟩:=LY hF;refine Rc 14 (WC.loopD (fun s u wl=>∃(q:Bool) (v:Int),Kn 90 [(3,.p i0),(4,.p k0),(5,.p m0),(6,f0),(7,.i a0.2.2.2.2),(8,.i t.1),(12,.bool q),(13,.i v)] u∧AM v0 wl∧JG n a0 w0 s q v=some ()) n ?_ ?_)
    ·intro u hK;exact⟨false,0,hK.sub z,AM.refl _,hF⟩
    ·rintro s u T1 ⟨q,v,hK,x,hF⟩;refine Cd hK ?_;rcases s with _|s;exact CZ hF;rw [JG.eq_2]at hF;have⟨b0,U1⟩:=Et T x;have⟨l,m,o,i,j,k,a,b⟩:=CN l m o i j k a b x;have⟨c,d,e,f,g,h⟩:=Fv c d e f g h x;refine Rc 5 (Yl z (Fi z Ft h) (Ro 3 (Wc z hF ?_ ?_)))
     ·intro hF;have⟨V1,y0,hF⟩:=AK hF;have⟨y,z0,hF⟩:=AK hF;refine Rc 5 ?_;refine Cj 14 Tryz.hm fun c0 A p=>?_;have⟨A0,W1⟩:=Et b0 A;have⟨l,m,o,i,j,k,a,b⟩:=CN l m o i j k a b A;have⟨c,d,e,f,g,h⟩:=Fv c d e f g h A;refine BN 0 p z (BQ z Az l An) (BN 1 p z (BQ z Co m Bn) (BN 2 p z (BQ z EA o CH) (Dl p [3,4] (GX 5 p z (IL z Ft DY h y0) ?_))));rintro _ ⟨X1,Y1,rfl,Z1,B0,C0⟩;obtain rfl:=Bs B0;refine BN 6 p z (Bi z ET) (BN 7 p z (Dw 0 z AU C0 z z) (Dl p [8] (Dc 9 z (CT z oR (mH z0 nr (AC.slN a (Nat.zero_le _) nr) (AC.slN b (Nat.zero_le _) nr) (AC.slf c (Nat.zero_le _) nr) (AC.slf d (Nat.zero_le _) nr) (i.wide (Nat.zero_le _)) (AC.slf e (Nat.zero_le _) nr) (AC.slf f (Nat.zero_le _) nr) (j.wide (Nat.zero_le _)) (AC.slf g (Nat.zero_le _) nr) (k.wide (Nat.zero_le _)):)) ?_)));rintro _ D0 ⟨rfl,U⟩;have E0:AM c0 D0:=AM.trans (AM.refl c0) U;have⟨a2,b2⟩:=Et A0 U;refine⟨E0,?_⟩;refine Dl p [10,11,12,13] (EH z (Tr 1 (TL.noPan (l:=[]) (Re 4 (Oc 7 [3,4,5,6,7,8,13] 81 74 ((((y.2==0))&&(decide (y.1<0)))) z ?_ ?_)))))
      ·refine Ro 3 (UT 3 [3,4,5,6,7,8,13,74,75,76,77] 80 77 ?_);exact Ro 1 (Cy)
      refine Ro 10 ?_;intro u hK;exact⟨s,nr,((q||((((y.2==0))&&(decide (y.1<0)))))),(wrap .i64 (v+1)),hK.sub z,(AM.trans (AM.trans x A) U),hF⟩
     ·intro hF;refine Rc 3 ?_
      subst x0
      refine Re 7 (Hw 5 [] 89 84 (((decide (t.1<0))==q)) z ?_ ?_)
      ·exact Ro 3 (Yl z (SU z iW z z) (Ro 1 (Cy)))
      exact Ro 4 (Ne z z ⟨_,z,(((decide (t.1<=0))&&(((decide (t.1<0))==q)))),z,b0,hF⟩)
end Go.Proofs.YthojemmmflaicabGreatDoor
