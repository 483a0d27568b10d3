/- The walks: every function that FnClockPins reaches computes the plain function that is typed beside it; no condition. -/
import Derived.Test.YtbcnjcjcdknhhaaGreatDoorWalkFnClockPinsB0
import Derived.Test.YtbcnjcjcdknhhaaGreatDoorWalkFnClockPinsL0
import Derived.Test.YtbcnjcjcdknhhaaGreatDoorWalkFnClockPinsS2
import Derived.Test.YtbcnjcjcdknhhaaGreatDoorWalkFnClockPinsI1
set_option linter.all false
set_option maxRecDepth 20000
set_option maxHeartbeats 40000000
namespace Go.Proofs.YtbcnjcjcdknhhaaGreatDoor
open Go Go.RowKit Go.Eng Go.Proofs.Tryz
open Go.IntKind (wrap)
variable {n H:Nat} {w:World}
def Ix(r47:Int)(r63:List Bool)(k2:Int->(List Bool)->Option (List Bool)):Nat->Int->(List Bool)->Option (List Bool)
 |0,_,_=>none
 |m+1,i75,l76=>(bif decide (i75<r47)then((AM l76 i75).bind fun x79=>((bif x79 then(some true)else((AM r63 i75).bind fun x86=>(some x86))).bind fun c86=>((AM l76 i75).bind fun x100=>(Ix r47 r63 k2 m (wrap .i64 (i75+1)) ((l76.set (i75).toNat c86))))))else(k2 i75 l76))
def IA(n:Nat)(a0:AP)(r20:List AR)(k0:Int->(List Bool)->Option (List Bool)):Nat->Int->(List Bool)->Option (List Bool)
 |0,_,_=>none
 |m+1,i42,l45=>(bif decide (i42<(r20.length:Int))then((AM r20 i42).bind fun x47=>(bif (x47.Kind==1)then((AM r20 i42).bind fun x54=>((Om n a0 x54).bind fun r61=>((AM l45 i42).bind fun x155=>((AM l45 i42).bind fun x167=>(IA n a0 r20 k0 m (wrap .i64 (i42+1)) ((l45.set (i42).toNat ((x155&&((r61.1.Kind==1)))))))))))else(IA n a0 r20 k0 m (wrap .i64 (i42+1)) l45)))else(k0 i42 l45))
def VK(n:Nat)(a0:AP)(a1:List Int)(a2:Int):Option (List Bool):=((TQ n a0).bind fun r20=>((PC n r20 a1).bind fun r30=>(IA n a0 r20 (fun i42 l45=>((Li n a0).bind fun r47=>((Rh n r47 r20 l45 (wrap .i64 (2*a2)) true).bind fun r53=>((Rh n r47 r20 l45 (wrap .i64 ((wrap .i64 (2*a2))+1)) true).bind fun r63=>(Ix r47 r63 (fun i75 l76=>(some l76)) n 0 r53))))) n 0 r30)))
def GN(n:Nat)(g_:Bool->Option Unit)(r58:(List Int)×Int)(r91:(List Int)×Int)(k0:Int->Option Unit):Nat->Int->Option Unit
 |0,_=>none
 |m+1,i103=>(bif decide (i103<(r58.1.length:Int))then((AM r58.1 i103).bind fun x106=>((Rm n r91.1 (wrap .i64 (2*x106))).bind fun r113=>((bif (!r113)then((AM r58.1 i103).bind fun x119=>((Rm n r91.1 (wrap .i64 ((wrap .i64 (2*x119))+1))).bind fun r126=>(some (!r126))))else(some false)).bind fun c119=>(bif c119 then(g_ false)else(GN n g_ r58 r91 k0 m (wrap .i64 (i103+1)))))))else(k0 i103))
def Sd(n:Nat)(O_:Kh)(a0:List Int)(g_:Bool->Option Unit):Option Unit:=((Sb n a0).bind fun r3=>(bif r3 then(g_ true)else(RQ n O_ a0 fun r9=>((Ov n r9.1 r9.2.1 r9.2.2).bind fun r58=>((Su n r9.1 r9.2.1 r9.2.2).bind fun r68=>((bif (r58.2 !=r68.2)then(some true)else((RD n r58.1 r68.1).bind fun r78=>(some (!r78)))).bind fun c78=>(bif c78 then(g_ false)else(bif (r58.2 !=0)then(g_ true)else((Qg n r9.1 r9.2.1 r9.2.2).bind fun r91=>(GN n g_ r58 r91 (fun i103=>((bif (r91.2==0)then((Rm n r91.1 (wrap .i64 (2*r9.2.2))).bind fun r106=>(some r106))else(some false)).bind fun c106=>((bif c106 then((Rm n r91.1 (wrap .i64 ((wrap .i64 (2*r9.2.2))+1))).bind fun r119=>(some r119))else(some false)).bind fun c119=>(g_ c119)))) n 0))))))))))
theorem bL{O_:Kh}{q:List Int}{g_:Bool->Option Unit}{I0:Value}(hF:Sd n O_ q g_=some ())(hH:H<=w.heap.size)(x:AD (AI .u8) w (Iv 0 H) q I0):
 Calls prog 3 [I0].toArray w (Bj fun u F1=>∃r:Bool,u= .bool r∧AJ w F1∧g_ r=some ()):=by
 refine AH func3 rfl ntmps3 ?_;have y:=AJ.refl w;unfold Sd at hF;refine Rc 9 ?_;have⟨A2,i0,hF⟩:=AC hF;refine Ef rfl (Ay rfl Yz (YY i0 (by omega) (x.oh hH y):)) ?_;rintro _ M2 ⟨rfl,p0⟩;have⟨k,u1⟩:=Et y p0;refine Ro 2 (Wc rfl hF ?_ ?_)
 ·intro hF;exact Rc 7 (Ne rfl rfl ⟨_,rfl,true,rfl,k,hF⟩)
 ·intro hF;refine Rc 5 (Ef rfl (Ay rfl Yv (Yk hF (by omega) (x.oh hH k):)) ?_);rintro _ F2 ⟨X,w0,x0,y0,z0,A1,B1,rfl,A,B,C,D,E,F,W1,X1,Y1,Z1,a1,b1,c1,d1,e1,f1,n0,hF⟩;have⟨X0,p1⟩:=Et k n0;have P0:=AB.blk A;have Q0:=AB.blk B;have R0:=AB.blk C;have S0:=AB.blk D;have T0:=AB.blk F;refine Ro 4 (Ef rfl (Ab rfl Ju) ?_);rintro _ L2 ⟨s,rfl,U1,V1,Q,I⟩;have⟨Y0,q1⟩:=Et X0 Q;have⟨E,A,B,C,D,F⟩:=Hx E A B C D F Q;refine Ef rfl (CY rfl I BO (AE (AD.one (AB.slN A nr nr (by omega))) (AE (AD.one (AB.slN B nr nr (by omega))) (AE C.one (AE D.one (AE (AD.one E) Ah))))) rfl) ?_;rintro _ J0 ⟨R,O0⟩;have⟨Z0,r1⟩:=Eu Y0 R (by omega);have E:=E.upd R (by omega);have A:=A.updN R (Nb.of P0 (by omega)) (by omega);have B:=B.updN R (Nb.of Q0 (by omega)) (by omega);have C:=C.upd R (Nb.of R0 (by omega));have D:=D.upd R (Nb.of S0 (by omega));have F:=F.upd R (Nb.of T0 (by omega));have I:AU J0 s [w0,x0,y0,z0,A1] 34:=O0;refine Ro 6 (Yl rfl (CS rfl Bb I BO) (Ro 2 ?_));have⟨f,j0,hF⟩:=AC hF;refine Ef rfl (Ay rfl YL (Xq j0 nr (AB.slN A (Nat.zero_le _) nr (by omega)) (AB.slN B (Nat.zero_le _) nr (by omega)) (AB.slf C (Nat.zero_le _) nr) (AB.slf D (Nat.zero_le _) nr) (E.wide (Nat.zero_le _) (by omega)) (AB.slf F (Nat.zero_le _) nr):)) ?_;rintro _ N2 ⟨g,rfl,J,O⟩;have⟨a0,s1⟩:=Et Z0 O;have⟨I,E,A,B,C,D,F⟩:=MH I E A B C D F O;have L1:=AB.blk J;refine Ro 9 (Yl rfl (CS rfl Bb I BO) (Ro 2 ?_));have⟨v0,k0,hF⟩:=AC hF;refine Ef rfl (Ay rfl Zd (cW k0 nr (AB.slN A (Nat.zero_le _) nr (by omega)) (AB.slN B (Nat.zero_le _) nr (by omega)) (AB.slf C (Nat.zero_le _) nr) (AB.slf D (Nat.zero_le _) nr) (E.wide (Nat.zero_le _) (by omega)) (AB.slf F (Nat.zero_le _) nr):)) ?_;rintro _ G1 ⟨E2,rfl,D0,M⟩;have⟨C0,t1⟩:=Et a0 M;have⟨I,E,A,B,C,D,F,J⟩:=Cp I E A B C D F J M;have M1:=AB.blk D0;refine Ro 14 ?_;have⟨N0,V,hF⟩:=AC hF;refine TL.cutD 5 [(3,.pointer (some ⟨s,0,none⟩)),(4,B1),(5,.i X.2.2),(6,g),(7,.i f.2),(43,.bool N0)] (fun w'=>AJ G1 w') ?_ ?_
  ·rcases BV ((f.2 !=v0.2))with c|c
   ·replace V:=Ao c V;refine Kc 38 c rfl (Ro 4 ?_);obtain rfl:=Bv V;exact Ro 1 (TL.nil fun a h=>⟨h.sub rfl,AJ.refl _⟩)
   ·replace V:=An c V;refine Kc 38 c rfl ?_;replace hF:=V;refine Ro 2 ?_;have⟨B2,l0,hF⟩:=AC hF;refine Ef rfl (Ay rfl Ze (Yq l0 nr (AB.slf J (Nat.zero_le _) nr) (AB.slf D0 (Nat.zero_le _) nr):)) ?_;rintro _ O2 ⟨rfl,L⟩;have⟨R1,v1⟩:=Et C0 L;have⟨I,E,A,B,C,D,F,J⟩:=Cp I E A B C D F J L;refine Ro 1 ?_;cases Ap hF;exact Ro 1 (TL.nil fun a h=>⟨h.sub rfl,L⟩)
  intro H1 N;have⟨l,w1⟩:=Et C0 N;have⟨I,E,A,B,C,D,F,J⟩:=Cp I E A B C D F J N;refine Ro 2 (Wc rfl hF ?_ ?_)
  ·intro hF;exact Rc 7 (Ne rfl rfl ⟨_,rfl,false,rfl,l,hF⟩)
  ·intro hF;refine Rc 9 (Wc rfl hF ?_ ?_)
   ·intro hF;exact Rc 7 (Ne rfl rfl ⟨_,rfl,true,rfl,l,hF⟩)
   ·intro hF;refine Rc 4 (Yl rfl (CS rfl Bb I BO) (Ro 2 ?_));have⟨P,m0,hF⟩:=AC hF;refine Ef rfl (Ay rfl VO (Yu m0 nr (AB.slN A (Nat.zero_le _) nr (by omega)) (AB.slN B (Nat.zero_le _) nr (by omega)) (AB.slf C (Nat.zero_le _) nr) (AB.slf D (Nat.zero_le _) nr) (E.wide (Nat.zero_le _) (by omega)) (AB.slf F (Nat.zero_le _) nr):)) ?_;rintro _ I1 ⟨i,rfl,E0,H0⟩;have⟨b0,g1⟩:=Et l H0;have J:=J.ext H0;have N1:=AB.blk E0;refine Ro 14 ?_;refine WC.loopD (fun d a wl=>∃(W:Int),Kn 93 [(5,.i X.2.2),(6,g),(10,i),(11,.i P.2),(12,.i W)] a∧AJ w wl∧I1.heap.size<=wl.heap.size∧AB (AI .i64) wl (J0.heap.size) (Iv 0 0) 2 f.1 g∧AB (AI .i64) wl (H1.heap.size) (Iv 0 0) 2 P.1 i∧GN n g_ f P (fun W=>(Option.bind (bif (P.2==0)then(Option.bind (Rm n P.1 (wrap .i64 (2*X.2.2))) fun s0=>(some s0))else(some false)) fun K0=>(Option.bind (bif K0 then(Option.bind (Rm n P.1 (wrap .i64 ((wrap .i64 (2*X.2.2))+1))) fun u0=>(some u0))else(some false)) fun L0=>(g_ L0)))) d W=some ()) n ?_ ?_
    ·intro a hK;exact⟨0,hK.sub rfl,b0,Nat.le_refl _,J,E0,hF⟩
    ·rintro d a C1 ⟨W,hK,j,h1,K,G,hF⟩;revert a;change WC _ _ _ _ _ _
     cases d with
     |zero=>exact CE hF
     |succ d=>
      rw [GN.eq_2]at hF;refine Rc 5 (Yl rfl (Ev rfl underlying35 K) (Ro 3 (Wc rfl hF ?_ ?_)))
      ·intro hF;refine Rc 9 ?_;have⟨P2,q0,hF⟩:=AC hF;refine Ye rfl (CV rfl underlying35 BA K q0) ?_;rintro _ ⟨J1,C2,rfl,S1,c0,U0⟩;obtain rfl:=c0;refine Yl rfl (BU 0 rfl Aa U0 rfl rfl) (Ro 1 ?_);have⟨t0,d0,hF⟩:=AC hF;refine Ef rfl (Ay rfl Nz (Xd d0 nr (AB.slf G (Nat.zero_le _) nr):)) ?_;rintro _ D1 ⟨rfl,m⟩;have⟨z,i1⟩:=Et j m;have⟨K,G⟩:=Bm K G m;refine Ro 2 ?_;have⟨M0,S,hF⟩:=AC hF;refine TL.cutD 10 [(5,.i X.2.2),(6,g),(10,i),(11,.i P.2),(12,.i W),(77,.bool M0)] (fun w'=>AJ D1 w') ?_ ?_
       ·rcases BV (!t0)with Y|Y
        ·replace S:=Ao Y S;refine Kc 67 Y rfl ?_;replace hF:=S;refine Ro 3 ?_;have⟨Q2,r0,hF⟩:=AC hF;refine Ye rfl (CV rfl underlying35 BA K r0) ?_;rintro _ ⟨K1,D2,rfl,T1,e0,V0⟩;obtain rfl:=e0;refine Yl rfl (BU 0 rfl Aa V0 rfl rfl) (Ro 2 ?_);have⟨x1,f0,hF⟩:=AC hF;refine Ef rfl (Ay rfl Nz (Xd f0 nr (AB.slf G (Nat.zero_le _) nr):)) ?_;rintro _ G2 ⟨rfl,e⟩;have⟨O1,j1⟩:=Et z e;have⟨K,G⟩:=Bm K G e;refine Ro 1 ?_;cases Ap hF;exact Ro 1 (TL.nil fun a h=>⟨h.sub rfl,e⟩)
        ·replace S:=An Y S;refine Kc 67 Y rfl (Ro 9 ?_);obtain rfl:=Bv S;exact Ro 1 (TL.nil fun a h=>⟨h.sub rfl,AJ.refl _⟩)
       intro H2 o;have⟨A0,k1⟩:=Et z o;have⟨K,G⟩:=Bm K G o;refine Ro 2 (Wc rfl hF ?_ ?_)
       ·intro hF;exact Rc 11 (Ne rfl rfl ⟨_,rfl,false,rfl,A0,hF⟩)
       ·intro hF;refine Rc 9 ?_;intro a hK;exact⟨d,nr,(wrap .i64 (W+1)),hK.sub rfl,A0,(by omega),K,G,hF⟩
      ·intro hF;refine Rc 10 ?_;have⟨t,T,hF⟩:=AC hF;refine TL.cutD 5 [(5,.i X.2.2),(10,i),(85,.bool t)] (fun w'=>AJ C1 w') ?_ ?_
       ·rcases BV ((P.2==0))with Z|Z
        ·replace T:=Ao Z T;refine Kc 80 Z rfl ?_;replace hF:=T;refine Ro 3 ?_;have⟨y1,g0,hF⟩:=AC hF;refine Ef rfl (Ay rfl Nz (Xd g0 nr (AB.slf G (Nat.zero_le _) nr):)) ?_;rintro _ I2 ⟨rfl,p⟩;have⟨P1,l1⟩:=Et j p;have G:=G.ext p;cases Ap hF;exact Ro 1 (TL.nil fun a h=>⟨h.sub rfl,p⟩)
        ·replace T:=An Z T;refine Kc 80 Z rfl (Ro 4 ?_);obtain rfl:=Bv T;exact Ro 1 (TL.nil fun a h=>⟨h.sub rfl,AJ.refl _⟩)
       intro E1 F0;have⟨B0,m1⟩:=Et j F0;have G:=G.ext F0;refine Ro 1 ?_;have⟨v,U,hF⟩:=AC hF;refine TL.cutD 6 [(92,.bool v)] (fun w'=>AJ E1 w') ?_ ?_
       ·rcases BV t with b|b
        ·replace U:=Ao b U;refine Kc 86 b rfl ?_;replace hF:=U;refine Ro 4 ?_;have⟨z1,h0,hF⟩:=AC hF;refine Ef rfl (Ay rfl Nz (Xd h0 nr (AB.slf G (Nat.zero_le _) nr):)) ?_;rintro _ J2 ⟨rfl,G0⟩;have⟨Q1,n1⟩:=Et B0 G0;cases Ap hF;exact Ro 1 (TL.nil fun a h=>⟨h.sub rfl,G0⟩)
        ·replace U:=An b U;refine Kc 86 b rfl (Ro 5 ?_);obtain rfl:=Bv U;exact Ro 1 (TL.nil fun a h=>⟨h.sub rfl,AJ.refl _⟩)
       intro K2 o0;have⟨W0,o1⟩:=Et B0 o0;exact Ro 4 (Ne rfl rfl ⟨_,rfl,v,rfl,W0,hF⟩)
end Go.Proofs.YtbcnjcjcdknhhaaGreatDoor
