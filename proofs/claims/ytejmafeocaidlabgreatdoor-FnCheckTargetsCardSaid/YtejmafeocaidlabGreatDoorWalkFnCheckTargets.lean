/- The walks: every function that FnCheckTargets reaches computes the plain function that is typed beside it; no condition. -/
import Derived.Test.YtejmafeocaidlabGreatDoorWalkFnCheckTargetsB0
import Derived.Test.YtejmafeocaidlabGreatDoorWalkFnCheckTargetsL0
import Derived.Test.YtejmafeocaidlabGreatDoorWalkFnCheckTargetsS1
import Derived.Test.YtejmafeocaidlabGreatDoorWalkFnCheckTargetsI0
set_option linter.all false
set_option maxRecDepth 20000
set_option maxHeartbeats 40000000
namespace Go.Proofs.YtejmafeocaidlabGreatDoor
open Go Go.RowKit Go.Eng Go.Proofs.Tryz
open Go.IntKind (wrap)
variable {n H:Nat} {w:World}
def ID(g_:Bool->Option Unit)(r9:AJ×Au×BS)(r93:(List Aj)×Int)(r103:(List Aj)×Int)(r114:(List BP)×Int)(r137:Int)(k0:Int->Bool->Int->Option Unit):Nat->Int->Bool->Int->Option Unit
 |0,_,_,_=>none
 |m+1,c,d,b=>cond (decide (b<(r93.1.length:Int))) ((AL r93.1 b).bind fun a=>(AL r103.1 b).bind fun g=>(cond (!((a.c==g.c)&&((a.b.c==g.b.c)&&(a.b.b==g.b.b)))) (some true) ((AL r9.2.1.c a.c).bind fun o=>some (!o))).bind fun r=>cond r (g_ false) ((AL r9.2.1.b a.c).bind fun f=>(AL r9.2.1.b a.c).bind fun e=>cond (a.b.b !=1000000000) (cond (a.b.c !=(-1000000000)) (ID g_ r9 r93 r103 r114 r137 k0 m (min (min c (wrap .i64 (a.b.b-f.b))) (wrap .i64 (e.c-a.b.c))) d (wrap .i64 (b+1))) ((cond d (some true) ((AL r114.1 r137).bind fun l=>some (((wrap .i64 (e.c-a.b.c))==l.b)))).bind fun i=>ID g_ r9 r93 r103 r114 r137 k0 m (min c (wrap .i64 (a.b.b-f.b))) i (wrap .i64 (b+1)))) ((cond d (some true) ((AL r114.1 r137).bind fun k=>some (((wrap .i64 (a.b.b-f.b))==k.b)))).bind fun h=>cond (a.b.c !=(-1000000000)) (ID g_ r9 r93 r103 r114 r137 k0 m (min c (wrap .i64 (e.c-a.b.c))) h (wrap .i64 (b+1))) ((cond h (some true) ((AL r114.1 r137).bind fun j=>some (((wrap .i64 (e.c-a.b.c))==j.b)))).bind fun p=>ID g_ r9 r93 r103 r114 r137 k0 m c p (wrap .i64 (b+1)))))) (k0 c d b)
def fT(n:Nat)(O_:Pt)(a0:List Int)(g_:Bool->Option Unit):Option Unit:=(eR n a0).bind fun p=>cond p (g_ true) (gC n O_ a0 fun e=>(Qi n e.1 e.2.1 e.2.2).bind fun c=>(YV n e.1 e.2.1 e.2.2).bind fun d=>cond (((c.2 !=d.2))||((((c.1.length:Int)) !=((d.1.length:Int))))) (g_ false) (cond (c.2 !=0) (g_ true) ((YQ n e.1 e.2.1 e.2.2).bind fun a=>(cond (a.2 !=0) (some true) ((Yj n e.1 c.1).bind fun j=>some (!j))).bind fun k=>cond k (g_ false) ((cG n a.1).bind fun b=>cond (decide (b<0)) (g_ ((((((c.1.length:Int))==0))&&((((a.1.length:Int))==0))))) (cond ((decide (b>=(a.1.length:Int)))||((((c.1.length:Int))==0))) (g_ false) (ID g_ e c d a b (fun g h o=>(AL a.1 b).bind fun l=>(cond (g==l.b) (some true) ((cond h ((AL a.1 b).bind fun i=>some (decide (g>=i.b))) (some false)).bind fun f=>some f)).bind fun f=>g_ f) n 4000000000 false 0))))))
theorem AcO{O_:Pt}{Z:List Int}{g_:Bool->Option Unit}{a0:Value}(hF:fT n O_ Z g_=some ())(hH:H<=w.heap.size)(b0:At (Bo .u8) w H Z a0):
 Calls prog 3 [a0].toArray w (Fu fun t0 u0=>∃c0:Bool,t0= .bool c0∧AU w u0∧g_ c0=some ()):=by
 have d0:=AU.refl w;unfold fT at hF;refine AE func3 z ntmps3 (Rc 9 (Cs hF d0 zP (fun _ q=>(yZ q (by omega) (b0.oj d0):)) ?_));rintro _ hF _ _ ⟨I,_⟩;refine Ro 2 (Wc z hF ?_ ?_)
 ·intro hF;exact Rc 7 (Ne z z ⟨_,z,true,z,I,hF⟩)
 ·intro hF;refine Rc 5 (Ef z (GO z wP (AcI hF (by omega) (b0.oj I):)) ?_);rintro _ _ ⟨v0,_,_,_,_,_,_,_,_,rfl,e,f,g,h,i,b,a,j,_,_,_,_,_,_,_,_,_,_,_,_,_,_,_,w0,hF⟩;have⟨x0,_⟩:=Et I w0;have J:=AC.blk e;have K:=AC.blk f;have L:=AC.blk g;have M:=AC.blk h;have D:=AC.blk b;have E:=AC.blk a;refine Ro 4 (Ef z (AZ z ND) ?_);rintro _ _ ⟨_,rfl,_,_,e0,k⟩;have⟨y0,_⟩:=Et x0 e0;have⟨i,j,e,f,g,h,b,a⟩:=GT i j e f g h b a e0;refine Ef z (AZ z KQ) ?_;rintro _ _ ⟨z0,rfl,_,_,N,c⟩;have⟨A0,_⟩:=Et y0 N;have⟨k,i,j,e,f⟩:=Gw k i j e f N;have⟨g,h,b,a⟩:=Gp g h b a N;refine Ef z (AZ z Sw) ?_;rintro _ _ ⟨_,rfl,_,_,O,p⟩;have⟨B0,_⟩:=Et A0 O;have⟨k,c,i,j,e,f,g,h⟩:=GT k c i j e f g h O;have⟨b,a⟩:=Di b a O;refine Ef z (DQ z k Bv (AB (AF.one (AC.slN e nr nr)) (AB (AF.one (AC.slN f nr nr)) (AB g.one (AB h.one (AB (AF.one i) BC))))) z) ?_;rintro _ _ ⟨P,k⟩;have⟨D0,_⟩:=Eu B0 P;have⟨c,p,i,j,e,f,g,h⟩:=MQ c p i j (Am e J) (Am f K) (Am g L) (Am h M) P;have⟨b,a⟩:=PH (Am b D) (Am a E) P;refine Ef z (DQ z c DT (AB b.one (AB a.one (AB (AF.one j) BC))) z) ?_;rintro _ _ ⟨Q,c⟩;have⟨F0,_⟩:=Eu D0 Q;have⟨k,p,i,j,e,f,g,h⟩:=MQ k p i j (Am e J) (Am f K) (Am g L) (Am h M) Q;have⟨b,a⟩:=PH (Am b D) (Am a E) Q;refine Ef z (DQ z p FL z z) ?_;rintro _ _ ⟨R,p⟩;have⟨H0,_⟩:=Eu F0 R;have⟨k,c,i,j,e,f,g,h⟩:=MQ k c i j (Am e J) (Am f K) (Am g L) (Am h M) R;have⟨b,a⟩:=PH (Am b D) (Am a E) R;refine Ro 4 (Yl z (Ci z CR k Bv) (Yl z (Ci z Ep c DT) (Yl z (Ci z Ga p FL) ?_)));refine Cg hF wB (fun _ q=>(AaC q nr (AC.slN e nz nr) (AC.slN f nz nr) (AC.slf g nz nr) (AC.slf h nz nr) (i.wide nz) (AC.slf b nz nr) (AC.slf a nz nr) (j.wide nz):)) ?_;rintro F hF _ _ ⟨I0,rfl,l,S⟩;have⟨J0,_⟩:=Et H0 S;have⟨k,c,p,i,j,e,f,g⟩:=GT k c p i j e f g S;have⟨h,b,a⟩:=FE h b a S;have p2:=AC.blk l;refine Ro 9 (Yl z (Ci z CR k Bv) (Yl z (Ci z Ep c DT) (Yl z (Ci z Ga p FL) ?_)));refine Cg hF yE (fun _ q=>(W_b q nr (AC.slN e nz nr) (AC.slN f nz nr) (AC.slf g nz nr) (AC.slf h nz nr) (i.wide nz) (AC.slf b nz nr) (AC.slf a nz nr) (j.wide nz):)) ?_;rintro f0 hF _ _ ⟨K0,rfl,m,T⟩;have⟨U,_⟩:=Et J0 T;have⟨k,c,p,i,j,e,f,g⟩:=GT k c p i j e f g T;have⟨h,b,a,l⟩:=Gp h b a l T;have L0:=AC.blk m;refine Ro 14 (Sg 6 [3,4,5,6,7,8] 50 44 ((((F.1.length:Int)) !=((f0.1.length:Int)))) z ?_ ?_)
  ·exact Ro 1 (Yl z (Hm z Jp l) (Ro 1 (Yl z (Hm z Jp m) (Ro 2 (Fk)))))
  refine Ro 2 (Wc z hF ?_ ?_)
  ·intro hF;exact Rc 7 (Ne z z ⟨_,z,false,z,U,hF⟩)
  ·intro hF;refine Rc 9 (Wc z hF ?_ ?_)
   ·intro hF;exact Rc 7 (Ne z z ⟨_,z,true,z,U,hF⟩)
   ·intro hF;refine Rc 4 (Yl z (Ci z CR k Bv) (Yl z (Ci z Ep c DT) (Yl z (Ci z Ga p FL) ?_)));refine Cg hF AbU (fun _ q=>(xD q nr (AC.slN e nz nr) (AC.slN f nz nr) (AC.slf g nz nr) (AC.slf h nz nr) (i.wide nz) (AC.slf b nz nr) (AC.slf a nz nr) (j.wide nz):)) ?_;rintro V hF _ _ ⟨M0,rfl,d,W⟩;have⟨g0,_⟩:=Et U W;have⟨k,c,i,e,f,g,h,b⟩:=GT k c i e f g h b W;have⟨a,l,m⟩:=FE a l m W;have N0:=AC.blk d;refine Ro 13 (PI 5 [4,6,8,10] 67 62 hF ?_ ?_)
    ·intro O0 hF;refine Yl z (Ci z CR k Bv) (Ro 1 ?_);refine Cs hF g0 AbC (fun _ q=>(AbX q nr (AC.slN e nz nr) (AC.slN f nz nr) (AC.slf g nz nr) (AC.slf h nz nr) (i.wide nz) (AC.slf l nz nr):)) ?_;rintro _ hF _ h0 ⟨_,_⟩;have⟨c,b,a,l,m,d⟩:=JQ c b a l m d h0;cases CF hF;exact Ro 1 (Ro 1 (Gj h0))
    intro O0 hF;intro y2 i0;have⟨j0,_⟩:=Et g0 i0;have⟨c,b,a,l,m,d⟩:=JQ c b a l m d i0;refine Ro 2 (Wc z hF ?_ ?_)
    ·intro hF;exact Rc 7 (Ne z z ⟨_,z,false,z,j0,hF⟩)
    ·intro hF;refine Rc 5 (Cs hF j0 rP (fun _ q=>(zC q nr (AC.slf d nz nr):)) ?_);rintro k0 hF P0 Q0 ⟨X,_⟩;have⟨c,b,a,l,m,d⟩:=JQ c b a l m d Q0;refine Ro 10 (Wc z hF ?_ ?_)
     ·intro hF;refine Rc 3 (Yl z (Hm z Jp l) (Ro 2 (Oz 4 [] 79 75 ((((V.1.length:Int))==0)) z ?_ ?_)))
      ·exact Ro 1 (Yl z (Hm z IG d) (Ro 2 (Fk)))
      exact Ro 5 (Ne z z ⟨_,z,((((((F.1.length:Int))==0))&&((((V.1.length:Int))==0)))),z,X,hF⟩)
     ·intro hF;refine Rc 7 (Yl z (Hm z IG d) (Ro 2 (Sg 4 [4,6,8,10,12] 88 84 ((((F.1.length:Int))==0)) z ?_ ?_)))
      ·exact Ro 1 (Yl z (Hm z Jp l) (Ro 2 (Fk)))
      refine Ro 2 (Wc z hF ?_ ?_)
      ·intro hF;exact Rc 7 (Ne z z ⟨_,z,false,z,X,hF⟩)
      ·intro hF;have⟨R0,S0,hF⟩:=jK hF;refine Rc 15 (WC.loopD (fun r s wl=>∃(t:Int) (G:Bool) (u:Int),Kn 189 [(4,.p z0),(6,I0),(8,K0),(10,M0),(12,.i k0),(13,.i t),(14,.bool G),(15,.i u)] s∧AU P0 wl∧ID g_ v0 F f0 V k0 R0 r t G u=some ()) n ?_ ?_)
       ·intro s hK;exact⟨4000000000,false,0,hK.sub z,AU.refl _,hF⟩
       ·rintro r s _ ⟨t,G,u,hK,x,hF⟩;refine EK hK ?_;rcases r with _|r;exact EI hF;rw [ID.eq_2]at hF;have⟨l0,_⟩:=Et X x;have⟨c,b,a,l,m,d⟩:=JQ c b a l m d x;refine Rc 5 (Yl z (Hm z Jp l) (Ro 3 (Wc z hF ?_ ?_)))
        ·intro hF;refine Rc 8 (Io hF l Jp GX ?_);rintro v _ hF _ ⟨_,_,rfl,_,T0,U0⟩;obtain rfl:=Dr T0;refine Yl z (FT (us:=[.i v.c,.i v.b.c,.i v.b.b]) z Sd U0 GX) (Ef z (AZ z WJ) ?_);rintro _ _ ⟨_,rfl,_,_,y,o⟩;have⟨V0,_⟩:=Et l0 y;have⟨c,b,a,m,d⟩:=Gw c b a m d y;refine Ef z (DQ z o GX z z) ?_;rintro _ _ ⟨A,o⟩;have⟨X0,_⟩:=Eu V0 A;have⟨c,b,a,m,d⟩:=NL c (Am b D) (Am a E) (Am m L0) (Am d N0) A;refine Ro 4 (DH Tryz.hm (Qy z (Ci z Sd o GX) (Qr 2 (ZQ hF m Jp GX ?_))));rintro Y _ hF _ ⟨_,_,rfl,_,Y0,Z0⟩;obtain rfl:=Dr Y0;refine Qy z (FT (us:=[.i Y.c,.i Y.b.c,.i Y.b.b]) z Sd Z0 GX) (Qy z (xY z z z mG (lO _ _ _) z) (Qr 1 (OC 8 [4,6,8,10,12,13,14,15,16] 113 105 hF ?_ ?_)))
         ·intro a1 hF;refine Fq Gm JZ c (Fq MB AR o (XT hF b GE Gl Gi ?_));rintro _ hF _;refine Qr 1 ?_;cases CF hF;exact Qr 1 LD
         intro a1 hF;refine QL.done fun T2 B=>?_;have⟨m0,_⟩:=Et X0 B;have⟨c,o,a,d⟩:=Gp c o a d B;refine Re 1 (Wc z hF ?_ ?_)
         ·intro hF;exact Rc 12 (Ne z z ⟨_,z,false,z,m0,hF⟩)
         ·intro hF;refine Rc 3 (DH Tryz.hm (Qy z (CK z Ie) (Qy z (CK z Cr) (Qy z (Ea z AR o z) (Fq EY El c (Fq MB AR o (ZQ hF a GZ CU ?_)))))));rintro n0 _ hF _ ⟨_,_,rfl,_,b1,c1⟩;obtain rfl:=Bp b1;refine JC Cr AR c1 (Qr 1 (Fq EY El c (Fq MB AR o (ZQ hF a GZ CU ?_))));rintro o0 _ hF _ ⟨_,_,rfl,_,d1,e1⟩;obtain rfl:=Bp d1;refine JC Cz AR e1 (Qy z (CK z Ie) (Qy z (CK z Cz) (Qy z (Ea z AR o z) (Qr 3 ?_))));refine QL.done fun d3 C=>?_;have⟨_,_⟩:=Et m0 C;have⟨o,d⟩:=Di o d C;refine Re 4 (Yl z (CK z Ie) (Yl z (CK z Cr) (Yl z (Ea z AR o z) (Ro 3 (Wc z hF ?_ ?_)))))
          ·intro hF;refine Rc 3 (Yl z (GW z z z) (Ro 5 (Yl z (CK z Ie) (Yl z (CK z Cz) (Yl z (Ea z AR o z) (Ro 3 (Wc z hF ?_ ?_)))))))
           ·intro hF;refine Rc 3 (Yl z (GW z z z) (Ro 10 ?_));intro s hK;exact⟨r,nr,(min (min t (wrap .i64 (v.b.b-n0.b))) (wrap .i64 (o0.c-v.b.c))),G,(wrap .i64 (u+1)),hK.sub z,(AU.trans (AU.trans (Eu (AU.trans x y) A).1 B) C),hF⟩
           ·intro hF;refine Rc 3 (OD 8 [4,6,8,10,12,13,15] 169 161 hF ?_ ?_)
            ·intro p0 hF;refine Ro 3 (Io hF d IG Gk ?_);rintro _ _ hF _ ⟨_,_,rfl,_,f1,g1⟩;obtain rfl:=DY f1;refine Fc Hk AR g1 (Ro 1 ?_);cases CF hF;exact Ro 1 (Fk)
            intro p0 hF;refine Ro 10 ?_;intro s hK;exact⟨r,nr,(min t (wrap .i64 (v.b.b-n0.b))),p0,(wrap .i64 (u+1)),hK.sub z,(AU.trans (AU.trans (Eu (AU.trans x y) A).1 B) C),hF⟩
          ·intro hF;refine Rc 3 (OD 8 [4,6,8,10,12,13,15,16,18] 152 144 hF ?_ ?_)
           ·intro q0 hF;refine Ro 3 (Io hF d IG Gk ?_);rintro _ _ hF _ ⟨_,_,rfl,_,h1,i1⟩;obtain rfl:=DY h1;refine Fc Hk AR i1 (Ro 1 ?_);cases CF hF;exact Ro 1 (Fk)
           intro q0 hF;refine Ro 5 (Yl z (CK z Ie) (Yl z (CK z Cz) (Yl z (Ea z AR o z) (Ro 3 (Wc z hF ?_ ?_)))))
           ·intro hF;refine Rc 3 (Yl z (GW z z z) (Ro 10 ?_));intro s hK;exact⟨r,nr,(min t (wrap .i64 (o0.c-v.b.c))),q0,(wrap .i64 (u+1)),hK.sub z,(AU.trans (AU.trans (Eu (AU.trans x y) A).1 B) C),hF⟩
           ·intro hF;refine Rc 3 (OD 8 [4,6,8,10,12,13,15] 169 161 hF ?_ ?_)
            ·intro r0 hF;refine Ro 3 (Io hF d IG Gk ?_);rintro _ _ hF _ ⟨_,_,rfl,_,j1,k1⟩;obtain rfl:=DY j1;refine Fc Hk AR k1 (Ro 1 ?_);cases CF hF;exact Ro 1 (Fk)
            intro r0 hF;refine Ro 10 ?_;intro s hK;exact⟨r,nr,t,r0,(wrap .i64 (u+1)),hK.sub z,(AU.trans (AU.trans (Eu (AU.trans x y) A).1 B) C),hF⟩
        ·intro hF;refine Rc 3 ?_
         subst S0
         refine Re 7 (Io hF d IG Gk ?_);rintro _ _ hF _ ⟨_,_,rfl,_,l1,m1⟩;obtain rfl:=DY l1;refine Fc Hk AR m1 (Ro 2 (OD 11 [] 188 177 hF ?_ ?_))
         ·intro s0 hF;refine Ro 2 (Iz 8 [177] 187 179 hF ?_ ?_)
          ·intro n1 hF;refine Ro 3 (Io hF d IG Gk ?_);rintro _ _ hF _ ⟨_,_,rfl,_,o1,p1⟩;obtain rfl:=DY o1;refine Fc Hk AR p1 (Ro 1 ?_);cases CF hF;exact Ro 1 (Fk)
          intro n1 hF;cases CF hF;exact Ro 1 (Fk)
         intro s0 hF;exact Ro 4 (Ne z z ⟨_,z,s0,z,l0,hF⟩)
end Go.Proofs.YtejmafeocaidlabGreatDoor
