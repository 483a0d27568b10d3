/- The walks: every function that FnExactViolatedChecks reaches computes the plain function that is typed beside it; no condition. -/
import Derived.Test.YtjhainjcamfohaaWalkFnExactViolatedChecksB0
import Derived.Test.YtjhainjcamfohaaWalkFnExactViolatedChecksL0
import Derived.Test.YtjhainjcamfohaaWalkFnExactViolatedChecksS0
import Derived.Test.YtjhainjcamfohaaWalkFnExactViolatedChecksI0
set_option linter.all false
set_option maxRecDepth 20000
set_option maxHeartbeats 40000000
namespace Go.Proofs.Ytjhainjcamfohaa
open Go Go.RowKit Go.Eng Go.Proofs.Try
open Go.IntKind (wrap)
variable {n H:Nat} {w:World}
def F_m (n:Nat) (a0:List S_Check):Option Bool:=((F_h n a0 1048576).bind fun r3=>(bif decide (r3 < 0) then (some true) else ((F_6 n a0).bind fun r9=>((F_3 n r9).bind fun r19=>((F_6 n a0).bind fun r29=>((F_f n r29).bind fun r39=>((F_7 n r39 r19).bind fun r49=>(bif (!r49) then (some false) else ((F_6 n a0).bind fun r55=>((F_7 n r29 r55).bind fun r65=>(bif (!r65) then (some false) else ((F_8 n r29 1).bind fun r71=>((bif decide (r71.1 < 0) then (some true) else ((F_7 n r39 r19).bind fun r82=>(some (!r82)))).bind fun c82=>(bif c82 then (some false) else ((F_8 n r39 1).bind fun r95=>((F_9 n r95.2 1).bind fun r106=>(bif decide (r106 < 0) then (some false) else (bif (r106 != r95.1) then (some false) else ((F_6 n a0).bind fun r112=>((F_f n r112).bind fun r122=>((F_7 n r122 r19).bind fun r132=>(bif (!r132) then (some false) else ((F_9 n r95.2 1).bind fun r138=>(bif decide (r138 < 0) then (some false) else (bif (r138 != r95.1) then (some false) else (some true))))))))))))))))))))))))))
theorem W_m {f:List S_Check} {r:Bool} {c:Value} (hF:F_m n f = some r) (hH:H ≤ w.heap.size) (F:slRep C_Check w (Iv 0 H) f c) :
    Calls prog 4 [c].toArray w (Ret fun u g0 => u = .bool r∧Ext w g0):=by
  refine calls_ofD func4 rfl ntmps4 ?_;have j:=Ext.refl w;unfold F_m at hF;refine Rc 14 ?_;have ⟨M1,T0,hF⟩:=bsome hF;refine Ef rfl (eca rfl gf_9 (W_h T0 (by omega) (F.oh hH j) :)) ?_;rintro _ h1 ⟨rfl,e0⟩;have ⟨T,B1⟩:=Et j e0;refine Ro 10 (Wc rfl hF ?_ ?_)
  · intro hF;refine Rc 7 ?_;cases szt hF;exact Ne rfl rfl ⟨_,rfl,rfl,T⟩
  · intro hF;refine Rc 5 ?_;have ⟨S1,L0,hF⟩:=bsome hF;refine Ef rfl (eca rfl gf_11 (W_6 L0 (by omega) (F.oh hH T) :)) ?_;rintro W1 Z1 ⟨_,rfl,s,b0⟩;have ⟨E0,u0⟩:=Et T b0;have k0:=ownR.blk s;have ⟨K1,R0,hF⟩:=bsome hF;refine Ef rfl (eca rfl gf_10 (W_3 R0 nr (ownR.slf s (Nat.zero_le _) nr) :)) ?_;rintro d e1 ⟨_,rfl,A,d0⟩;have ⟨l,v0⟩:=Et E0 d0;have i:=ownR.blk A;refine Ro 6 ?_;have ⟨L1,S0,hF⟩:=bsome hF;refine Ef rfl (eca rfl gf_11 (W_6 S0 (by omega) (F.oh hH l) :)) ?_;rintro y f1 ⟨_,rfl,C,x⟩;have ⟨F0,w0⟩:=Et l x;have A:=A.ext x;have O:=ownR.blk C;refine Ro 6 ?_;have ⟨N1,U0,hF⟩:=bsome hF;refine Ef rfl (eca rfl gf_7 (W_f U0 nr (ownR.slf C (Nat.zero_le _) nr) :)) ?_;rintro e g1 ⟨_,rfl,B,Y⟩;have ⟨G0,x0⟩:=Et F0 Y;have A:=A.ext Y;have C:=C.ext Y;have P:=ownR.blk B;refine Ro 8 ?_;have ⟨O1,V0,hF⟩:=bsome hF;refine Ef rfl (eca rfl gf_12 (W_7 V0 nr (ownR.slf B (Nat.zero_le _) nr) (ownR.slf A (Nat.zero_le _) nr) :)) ?_;rintro _ i1 ⟨rfl,J⟩;have ⟨R,y0⟩:=Et G0 J;have A:=A.ext J;have C:=C.ext J;have B:=B.ext J;refine Ro 3 (Wc rfl hF ?_ ?_)
    · intro hF;refine Rc 7 ?_;cases szt hF;exact Ne rfl rfl ⟨_,rfl,rfl,R⟩
    · intro hF;refine Rc 7 ?_;have ⟨P1,W0,hF⟩:=bsome hF;refine Ef rfl (eca rfl gf_11 (W_6 W0 (by omega) (F.oh hH R) :)) ?_;rintro X1 j1 ⟨_,rfl,t,K⟩;have ⟨H0,z0⟩:=Et R K;have A:=A.ext K;have C:=C.ext K;have B:=B.ext K;have l0:=ownR.blk t;have ⟨Q1,X0,hF⟩:=bsome hF;refine Ef rfl (eca rfl gf_12 (W_7 X0 nr (ownR.slf C (Nat.zero_le _) nr) (ownR.slf t (Nat.zero_le _) nr) :)) ?_;rintro _ k1 ⟨rfl,L⟩;have ⟨S,A1⟩:=Et H0 L;have A:=A.ext L;have C:=C.ext L;have B:=B.ext L;refine Ro 3 (Wc rfl hF ?_ ?_)
      · intro hF;refine Rc 7 ?_;cases szt hF;exact Ne rfl rfl ⟨_,rfl,rfl,S⟩
      · intro hF;refine Rc 11 ?_;have ⟨f0,Y0,hF⟩:=bsome hF;refine Ef rfl (eca rfl gf_13 (W_8 Y0 C :)) ?_;rintro _ z ⟨rfl,n0,M⟩;have m:Ext w z:=Below.trans S (But.below M (all_pO (fun g hg => by have:=O g hg;omega)) (S).size);have J0:∀ g q,y.ownBlock = some g → d.ownBlock = some q → g ≠ q:=(No.of O i (by omega));have A:=ownR.butF A M (all_pO (fun g hg q hq => J0 g q hg hq));have K0:∀ g q,y.ownBlock = some g → e.ownBlock = some q → g ≠ q:=(No.of O P (by omega));have B:=ownR.butF B M (all_pO (fun g hg q hq => K0 g q hg hq));have C1:=(M).size;refine Ro 9 ?_;have ⟨A0,E,hF⟩:=bsome hF;refine TL.cutD 5 [(0,c),(4,d),(6,e),(42,.bool A0)] (fun w' => Ext z w') ?_ ?_
        · rcases bft (decide (f0.1 < 0)) with G | G
          · replace E:=bif_t G E;refine Kc 37 G rfl (Ro 4 ?_);obtain rfl:=szs E;exact Ro 1 (TL.nil fun a h => ⟨h.sub rfl,Ext.refl _⟩)
          · replace E:=bif_f G E;refine Kc 37 G rfl ?_;replace hF:=E;refine Ro 2 ?_;have ⟨R1,Z0,hF⟩:=bsome hF;refine Ef rfl (eca rfl gf_12 (W_7 Z0 nr (ownR.slf B (Nat.zero_le _) nr) (ownR.slf A (Nat.zero_le _) nr) :)) ?_;rintro _ l1 ⟨rfl,N⟩;have ⟨m0,D1⟩:=Et m N;have A:=A.ext N;have B:=B.ext N;refine Ro 1 ?_;cases szt hF;exact Ro 1 (TL.nil fun a h => ⟨h.sub rfl,N⟩)
        intro m1 Z;have ⟨U,E1⟩:=Et m Z;have A:=A.ext Z;have B:=B.ext Z;refine Ro 2 (Wc rfl hF ?_ ?_)
        · intro hF;refine Rc 7 ?_;cases szt hF;exact Ne rfl rfl ⟨_,rfl,rfl,U⟩
        · intro hF;refine Rc 11 ?_;have ⟨T1,a0,hF⟩:=bsome hF;refine Ef rfl (eca rfl gf_13 (W_8 a0 B :)) ?_;rintro _ h0 ⟨rfl,D,b⟩;have B0:Ext w h0:=Below.trans U (But.below b (all_pO (fun g hg => by have:=P g hg;omega)) (U).size);have I0:∀ g q,e.ownBlock = some g → d.ownBlock = some q → g ≠ q:=(No.of P i (by omega));have A:=ownR.butF A b (all_pO (fun g hg q hq => I0 g q hg hq));have o0:=(b).size;refine Ro 12 ?_;have ⟨F1,M0,hF⟩:=bsome hF;refine Ef rfl (eca rfl gf_14 (W_9 M0 nr (ownR.slf D (Nat.zero_le _) nr) :)) ?_;rintro _ Y1 ⟨rfl,V⟩;have ⟨I,p0⟩:=Et B0 V;have A:=A.ext V;have D:=D.ext V;refine Ro 10 (Wc rfl hF ?_ ?_)
          · intro hF;refine Rc 7 ?_;cases szt hF;exact Ne rfl rfl ⟨_,rfl,rfl,I⟩
          · intro hF;refine Rc 10 (Wc rfl hF ?_ ?_)
            · intro hF;refine Rc 7 ?_;cases szt hF;exact Ne rfl rfl ⟨_,rfl,rfl,I⟩
            · intro hF;refine Rc 5 ?_;have ⟨G1,N0,hF⟩:=bsome hF;refine Ef rfl (eca rfl gf_11 (W_6 N0 (by omega) (F.oh hH I) :)) ?_;rintro U1 a1 ⟨_,rfl,o,W⟩;have ⟨C0,q0⟩:=Et I W;have A:=A.ext W;have D:=D.ext W;have i0:=ownR.blk o;have ⟨H1,O0,hF⟩:=bsome hF;refine Ef rfl (eca rfl gf_7 (W_f O0 nr (ownR.slf o (Nat.zero_le _) nr) :)) ?_;rintro V1 b1 ⟨_,rfl,p,X⟩;have ⟨D0,r0⟩:=Et C0 X;have A:=A.ext X;have D:=D.ext X;have j0:=ownR.blk p;refine Ro 8 ?_;have ⟨I1,P0,hF⟩:=bsome hF;refine Ef rfl (eca rfl gf_12 (W_7 P0 nr (ownR.slf p (Nat.zero_le _) nr) (ownR.slf A (Nat.zero_le _) nr) :)) ?_;rintro _ c1 ⟨rfl,v⟩;have ⟨k,s0⟩:=Et D0 v;have D:=D.ext v;refine Ro 3 (Wc rfl hF ?_ ?_)
              · intro hF;refine Rc 7 ?_;cases szt hF;exact Ne rfl rfl ⟨_,rfl,rfl,k⟩
              · intro hF;refine Rc 11 ?_;have ⟨J1,Q0,hF⟩:=bsome hF;refine Ef rfl (eca rfl gf_14 (W_9 Q0 nr (ownR.slf D (Nat.zero_le _) nr) :)) ?_;rintro _ d1 ⟨rfl,c0⟩;have ⟨Q,t0⟩:=Et k c0;refine Ro 10 (Wc rfl hF ?_ ?_)
                · intro hF;refine Rc 7 ?_;cases szt hF;exact Ne rfl rfl ⟨_,rfl,rfl,Q⟩
                · intro hF;refine Rc 10 (Wc rfl hF ?_ ?_)
                  · intro hF;refine Rc 7 ?_;cases szt hF;exact Ne rfl rfl ⟨_,rfl,rfl,Q⟩
                  · intro hF;refine Rc 8 ?_;cases szt hF;exact Ne rfl rfl ⟨_,rfl,rfl,Q⟩
end Go.Proofs.Ytjhainjcamfohaa
