/- The walks: every function that FnExactEdgePairs reaches computes the plain function that is typed beside it; no condition. -/
import Derived.Test.YtiaobghojdehbaaDoorWalkFnExactEdgePairsB0
import Derived.Test.YtiaobghojdehbaaDoorWalkFnExactEdgePairsL0
import Derived.Test.YtiaobghojdehbaaDoorWalkFnExactEdgePairsS0
import Derived.Test.YtiaobghojdehbaaDoorWalkFnExactEdgePairsI0
set_option linter.all false
set_option maxRecDepth 20000
set_option maxHeartbeats 40000000
namespace Go.Proofs.YtiaobghojdehbaaDoor
open Go Go.RowKit Go.Eng Go.Proofs.Tryd
open Go.IntKind (wrap)
variable {n H:Nat} {w:World}
def F_0j (n:Nat) (a0:List S_Clock) (a1:Int) (a2:Int) (a3:Int) (a4:Int):Option Bool:=((F_a n a0 1048576).bind fun r3=>(bif decide (r3 < 0) then (some true) else ((F_4 n a0).bind fun r9=>((F_07 n r9 a1 a2 a3 a4).bind fun r19=>((F_4 n a0).bind fun r30=>((F_v n r30 a1 a2 a3 a4).bind fun r40=>((F_7 n r40.1 r19.1).bind fun r51=>(bif ((!r51) || ((r40.2 != r19.2))) then (some false) else ((F_4 n a0).bind fun r62=>((F_m n r30 r62).bind fun r72=>(bif (!r72) then (some false) else ((F_i n r30 1).bind fun r78=>((bif decide (r78.1 < 0) then (some true) else ((F_7 n r40.1 r19.1).bind fun r89=>(some (!r89)))).bind fun c89=>(bif (c89 || ((r40.2 != r19.2))) then (some false) else ((F_k n r40.1 1).bind fun r107=>((F_8 n r107.2 1).bind fun r114=>(bif decide (r114 < 0) then (some false) else (bif (r114 != r107.1) then (some false) else ((F_4 n a0).bind fun r120=>((F_v n r120 a1 a2 a3 a4).bind fun r130=>((F_7 n r130.1 r19.1).bind fun r141=>(bif ((!r141) || ((r130.2 != r19.2))) then (some false) else ((F_8 n r107.2 1).bind fun r152=>(bif decide (r152 < 0) then (some false) else (bif (r152 != r107.1) then (some false) else (some true))))))))))))))))))))))))))
theorem W_0j {B0:List S_Clock} {I:Int} {J:Int} {K:Int} {L:Int} {r:Bool} {S:Value} (hF:F_0j n B0 I J K L = some r) (hH:H ≤ w.heap.size) (M:slRep C_Clock w (Iv 0 H) B0 S) :
    Calls prog 3 [S,.i I,.i J,.i K,.i L].toArray w (Ret fun u C1 => u = .bool r∧Ext w C1):=by
  refine calls_ofD func3 rfl ntmps3 ?_;have D0:Ext w w:=Ext.refl w;unfold F_0j at hF;refine Rc 14 ?_;have ⟨i1,n0,hF⟩:=bsome hF;refine Ef rfl (eca rfl gf_4 (W_a n0 (by omega) (M.oh hH D0) :)) ?_;rintro _ F2 ⟨rfl,x0⟩;obtain ⟨l,c1⟩:=Et D0 x0;refine Ro 10 (Wc rfl hF ?_ ?_)
  · intro hF;refine Rc 7 ?_;obtain rfl:=szs hF;exact Ne rfl rfl ⟨_,rfl,rfl,l⟩
  · intro hF;refine Rc 5 ?_;have ⟨m1,e0,hF⟩:=bsome hF;refine Ef rfl (eca rfl gf_6 (W_4 e0 (by omega) (M.oh hH l) :)) ?_;rintro p1 w1 ⟨_,rfl,J0,u0⟩;obtain ⟨X0,U1⟩:=Et l u0;have H1:=ownR.blk J0;refine Ro 4 ?_;have ⟨E,l0,hF⟩:=bsome hF;refine Ef rfl (eca rfl gf_5 (W_07 l0 nr (ownR.slf J0 (Nat.zero_le _) nr) :)) ?_;rintro _ C2 ⟨d,t1,rfl,A,w0⟩;obtain ⟨F0,V1⟩:=Et X0 w0;have C0:=ownR.blk (own2.r A);refine Ro 10 ?_;have ⟨j1,m0,hF⟩:=bsome hF;refine Ef rfl (eca rfl gf_6 (W_4 m0 (by omega) (M.oh hH F0) :)) ?_;rintro A0 D2 ⟨_,rfl,C,N0⟩;obtain ⟨Y0,W1⟩:=Et F0 N0;have A:=A.ext N0 (by omega);have N:=ownR.blk C;refine Ro 10 ?_;have ⟨F,o0,hF⟩:=bsome hF;refine Ef rfl (eca rfl gf_7 (W_v o0 nr (ownR.slf C (Nat.zero_le _) nr) :)) ?_;rintro _ E2 ⟨T,u1,rfl,B,x⟩;obtain ⟨Z0,X1⟩:=Et Y0 x;have A:=A.ext x (by omega);have C:=C.ext x;have R0:=ownR.blk (own2.r B);refine Ro 12 ?_;have ⟨P0,p0,hF⟩:=bsome hF;refine Ef rfl (eca rfl gf_8 (W_7 p0 nr (ownR.slN (own2.r B) (Nat.zero_le _) nr (by omega)) (ownR.slN (own2.r A) (Nat.zero_le _) nr (by omega)) :)) ?_;rintro _ D1 ⟨rfl,V⟩;obtain ⟨a0,Y1⟩:=Et Z0 V;have A:=A.ext V (by omega);have C:=C.ext V;have B:=B.ext V (by omega);refine Ro 2 ?_;refine TL.cutD 4 [(0,S),(1,.i I),(2,.i J),(3,.i K),(4,.i L),(12,d),(13,.i E.2),(14,A0),(15,T),(16,.i F.2),(56,.bool (((!P0) || ((F.2 != E.2)))))] (fun w' => Ext D1 w') ?_ ?_
    · rcases Bool.eq_false_or_eq_true (!P0) with Q | Q
      · exact Kc 52 Q rfl (Ro 4 (Kc 56 (ort (b:=(F.2 != E.2)) Q) rfl (TL.nil fun a h => ⟨h.sub rfl,Ext.refl _⟩)))
      · exact Kc 52 Q rfl (Ro 4 (Kc 56 (orf (b:=(F.2 != E.2)) Q) rfl (TL.nil fun a h => ⟨h.sub rfl,Ext.refl _⟩)))
    intro G2 W;obtain ⟨j,Z1⟩:=Et a0 W;have A:=A.ext W (by omega);have C:=C.ext W;have B:=B.ext W (by omega);refine Ro 2 (Wc rfl hF ?_ ?_)
    · intro hF;refine Rc 7 ?_;obtain rfl:=szs hF;exact Ne rfl rfl ⟨_,rfl,rfl,j⟩
    · intro hF;refine Rc 7 ?_;have ⟨k1,q0,hF⟩:=bsome hF;refine Ef rfl (eca rfl gf_6 (W_4 q0 (by omega) (M.oh hH j) :)) ?_;rintro r1 H2 ⟨_,rfl,K0,X⟩;obtain ⟨b0,a1⟩:=Et j X;have A:=A.ext X (by omega);have C:=C.ext X;have B:=B.ext X (by omega);have I1:=ownR.blk K0;have ⟨l1,r0,hF⟩:=bsome hF;refine Ef rfl (eca rfl gf_9 (W_m r0 nr (ownR.slf C (Nat.zero_le _) nr) (ownR.slf K0 (Nat.zero_le _) nr) :)) ?_;rintro _ I2 ⟨rfl,Y⟩;obtain ⟨m,b1⟩:=Et b0 Y;have A:=A.ext Y (by omega);have C:=C.ext Y;have B:=B.ext Y (by omega);refine Ro 3 (Wc rfl hF ?_ ?_)
      · intro hF;refine Rc 7 ?_;obtain rfl:=szs hF;exact Ne rfl rfl ⟨_,rfl,rfl,m⟩
      · intro hF;refine Rc 11 ?_;have ⟨z0,s0,hF⟩:=bsome hF;refine Ef rfl (eca rfl gf_10 (W_i s0 C :)) ?_;rintro _ Q0 ⟨rfl,K1,Z⟩;have G0:Ext w Q0:=Below.trans m (But.below Z (all_pO (fun g hg => by have:=N g hg;omega)) (m).size);have c0:∀ g q,A0.ownBlock = some g → d.ownBlock = some q → g ≠ q:=(No.of N C0 (by omega));have A:=A.but Z (all_pO (fun g hg q hq => c0 g q hg hq)) (by omega) (all_pO (fun g hg => by have:=N g hg;omega));have d0:∀ g q,A0.ownBlock = some g → T.ownBlock = some q → g ≠ q:=(No.of N R0 (by omega));have B:=B.but Z (all_pO (fun g hg q hq => d0 g q hg hq)) (by omega) (all_pO (fun g hg => by have:=N g hg;omega));have d1:=(Z).size;refine Ro 9 ?_;have ⟨e,G,hF⟩:=bsome hF;refine TL.cutD 5 [(0,S),(1,.i I),(2,.i J),(3,.i K),(4,.i L),(12,d),(13,.i E.2),(15,T),(16,.i F.2),(72,.bool e)] (fun w' => Ext Q0 w') ?_ ?_
        · rcases Bool.eq_false_or_eq_true (decide (z0.1 < 0)) with R | R
          · replace G:=bif_t R G;refine Kc 67 R rfl (Ro 4 ?_);obtain rfl:=szs G;exact Ro 1 (TL.nil fun a h => ⟨h.sub rfl,Ext.refl _⟩)
          · replace G:=bif_f R G;refine Kc 67 R rfl ?_;replace hF:=G;refine Ro 2 ?_;have ⟨n1,t0,hF⟩:=bsome hF;refine Ef rfl (eca rfl gf_8 (W_7 t0 nr (ownR.slN (own2.r B) (Nat.zero_le _) nr (by omega)) (ownR.slN (own2.r A) (Nat.zero_le _) nr (by omega)) :)) ?_;rintro _ J2 ⟨rfl,c⟩;obtain ⟨J1,e1⟩:=Et G0 c;have A:=A.ext c (by omega);have B:=B.ext c (by omega);refine Ro 1 ?_;obtain rfl:=szs hF;exact Ro 1 (TL.nil fun a h => ⟨h.sub rfl,c⟩)
        intro E1 y;obtain ⟨S0,L1⟩:=Et G0 y;have A:=A.ext y (by omega);have B:=B.ext y (by omega);refine Ro 1 ?_;refine TL.cutD 4 [(0,S),(1,.i I),(2,.i J),(3,.i K),(4,.i L),(12,d),(13,.i E.2),(15,T),(77,.bool ((e || ((F.2 != E.2)))))] (fun w' => Ext E1 w') ?_ ?_
        · rcases Bool.eq_false_or_eq_true e with O | O
          · exact Kc 73 O rfl (Ro 4 (Kc 77 (ort (b:=(F.2 != E.2)) O) rfl (TL.nil fun a h => ⟨h.sub rfl,Ext.refl _⟩)))
          · exact Kc 73 O rfl (Ro 4 (Kc 77 (orf (b:=(F.2 != E.2)) O) rfl (TL.nil fun a h => ⟨h.sub rfl,Ext.refl _⟩)))
        intro v1 o;obtain ⟨f,M1⟩:=Et S0 o;have A:=A.ext o (by omega);have B:=B.ext o (by omega);refine Ro 2 (Wc rfl hF ?_ ?_)
        · intro hF;refine Rc 7 ?_;obtain rfl:=szs hF;exact Ne rfl rfl ⟨_,rfl,rfl,f⟩
        · intro hF;refine Rc 11 ?_;have ⟨y0,f0,hF⟩:=bsome hF;refine Ef rfl (eca rfl gf_11 (W_k f0 B (by omega) :)) ?_;rintro _ A1 ⟨rfl,D,p⟩;have T0:Ext w A1:=Below.trans f (But.below p (fun k h => by have:=h.1;have:=h.2;omega) (f).size);have A:=A.but p (fun k h g hg => by have:=h.1;have:=h.2;have:=C0 g hg;omega) (by omega) (fun k h => by have:=h.1;have:=h.2;omega);have N1:=(p).size;refine Ro 12 ?_;have ⟨f1,g0,hF⟩:=bsome hF;refine Ef rfl (eca rfl gf_12 (W_8 g0 nr (ownR.slN (own2.r D) (Nat.zero_le _) nr (by omega)) :)) ?_;rintro _ x1 ⟨rfl,s⟩;obtain ⟨U,O1⟩:=Et T0 s;have A:=A.ext s (by omega);have D:=D.ext s (by omega);refine Ro 10 (Wc rfl hF ?_ ?_)
          · intro hF;refine Rc 7 ?_;obtain rfl:=szs hF;exact Ne rfl rfl ⟨_,rfl,rfl,U⟩
          · intro hF;refine Rc 10 (Wc rfl hF ?_ ?_)
            · intro hF;refine Rc 7 ?_;obtain rfl:=szs hF;exact Ne rfl rfl ⟨_,rfl,rfl,U⟩
            · intro hF;refine Rc 5 ?_;have ⟨g1,h0,hF⟩:=bsome hF;refine Ef rfl (eca rfl gf_6 (W_4 h0 (by omega) (M.oh hH U) :)) ?_;rintro o1 y1 ⟨_,rfl,H0,t⟩;obtain ⟨U0,P1⟩:=Et U t;have A:=A.ext t (by omega);have D:=D.ext t (by omega);have F1:=ownR.blk H0;refine Ro 4 ?_;have ⟨z,i0,hF⟩:=bsome hF;refine Ef rfl (eca rfl gf_7 (W_v i0 nr (ownR.slf H0 (Nat.zero_le _) nr) :)) ?_;rintro _ z1 ⟨q1,s1,rfl,I0,v⟩;obtain ⟨V0,Q1⟩:=Et U0 v;have A:=A.ext v (by omega);have D:=D.ext v (by omega);have G1:=ownR.blk (own2.r I0);refine Ro 12 ?_;have ⟨O0,j0,hF⟩:=bsome hF;refine Ef rfl (eca rfl gf_8 (W_7 j0 nr (ownR.slN (own2.r I0) (Nat.zero_le _) nr (by omega)) (ownR.slN (own2.r A) (Nat.zero_le _) nr (by omega)) :)) ?_;rintro _ B1 ⟨rfl,L0⟩;obtain ⟨W0,R1⟩:=Et V0 L0;have D:=D.ext L0 (by omega);refine Ro 2 ?_;refine TL.cutD 4 [(15,T),(18,.i y0.1),(107,.bool (((!O0) || ((z.2 != E.2)))))] (fun w' => Ext B1 w') ?_ ?_
              · rcases Bool.eq_false_or_eq_true (!O0) with P | P
                · exact Kc 103 P rfl (Ro 4 (Kc 107 (ort (b:=(z.2 != E.2)) P) rfl (TL.nil fun a h => ⟨h.sub rfl,Ext.refl _⟩)))
                · exact Kc 103 P rfl (Ro 4 (Kc 107 (orf (b:=(z.2 != E.2)) P) rfl (TL.nil fun a h => ⟨h.sub rfl,Ext.refl _⟩)))
              intro A2 M0;obtain ⟨E0,S1⟩:=Et W0 M0;have D:=D.ext M0 (by omega);refine Ro 2 (Wc rfl hF ?_ ?_)
              · intro hF;refine Rc 7 ?_;obtain rfl:=szs hF;exact Ne rfl rfl ⟨_,rfl,rfl,E0⟩
              · intro hF;refine Rc 11 ?_;have ⟨h1,k0,hF⟩:=bsome hF;refine Ef rfl (eca rfl gf_12 (W_8 k0 nr (ownR.slN (own2.r D) (Nat.zero_le _) nr (by omega)) :)) ?_;rintro _ B2 ⟨rfl,v0⟩;obtain ⟨i,T1⟩:=Et E0 v0;refine Ro 10 (Wc rfl hF ?_ ?_)
                · intro hF;refine Rc 7 ?_;obtain rfl:=szs hF;exact Ne rfl rfl ⟨_,rfl,rfl,i⟩
                · intro hF;refine Rc 10 (Wc rfl hF ?_ ?_)
                  · intro hF;refine Rc 7 ?_;obtain rfl:=szs hF;exact Ne rfl rfl ⟨_,rfl,rfl,i⟩
                  · intro hF;refine Rc 8 ?_;obtain rfl:=szs hF;exact Ne rfl rfl ⟨_,rfl,rfl,i⟩
end Go.Proofs.YtiaobghojdehbaaDoor
