/- The walks: every function that FnViolated reaches computes the plain function that is typed beside it; no condition. -/
import Derived.Test.YtjhainjcamfohaaWalkFnViolatedB0
import Derived.Test.YtjhainjcamfohaaWalkFnViolatedL0
import Derived.Test.YtjhainjcamfohaaWalkFnViolatedS0
import Derived.Test.YtjhainjcamfohaaWalkFnViolatedI0
set_option linter.all false
set_option maxRecDepth 20000
set_option maxHeartbeats 40000000
namespace Go.Proofs.Ytjhainjcamfohaa
open Go Go.RowKit Go.Eng Go.Proofs.Try
open Go.IntKind (wrap)
variable {n H:Nat} {w:World}
def F_b_L2 (a0:List S_Check) (l17:List S_Check) (i21:Int) (k2:Int→Option (List S_Check)):Nat→Int→Option (List S_Check)
  | 0, _=>none
  | m + 1, i33=>((bif decide (i33 > 0) then ((getI l17 (wrap .i64 (i33 - 1))).bind fun x35=>((getI a0 i21).bind fun x42=>(some (decide (x35.Slack > x42.Slack))))) else (some false)).bind fun c35=>(bif c35 then (F_b_L2 a0 l17 i21 k2 m (wrap .i64 (i33 - 1))) else (k2 i33)))
def F_b_L1 (n:Nat) (a0:List S_Check) (k0:(List S_Check)→Int→Option (List S_Check)):Nat→(List S_Check)→Int→Option (List S_Check)
  | 0, _, _=>none
  | m + 1, l17, i21=>(bif decide (i21 < (a0.length:Int)) then ((getI a0 i21).bind fun x22=>(bif decide (x22.Slack ≥ 0) then (F_b_L1 n a0 k0 m l17 (wrap .i64 (i21 + 1))) else (F_b_L2 a0 l17 i21 (fun i33=>((getI a0 i21).bind fun x35=>((subL l17 i33 (l17.length:Int)).bind fun z56=>((appN [x35] z56 32).bind fun z62=>((subL l17 0 i33).bind fun z127=>((appN (([]:List S_Check)) z127 32).bind fun z135=>((appN z135 z62 32).bind fun z151=>(F_b_L1 n a0 k0 m z151 (wrap .i64 (i21 + 1)))))))))) n ((l17.length:Int))))) else (k0 l17 i21))
def F_b (n:Nat) (a0:List S_Check):Option (List S_Check):=(F_b_L1 n a0 (fun l17 i21=>(some l17)) n (([]:List S_Check)) 0)
def F_3_L2 (r19:List S_Check) (i31:Int) (k2:Int→Option Bool):Nat→Int→Option Bool
  | 0, _=>none
  | m + 1, i38=>(bif decide (i38 < i31) then ((getI r19 i38).bind fun x41=>((bif decide (x41.Slack ≥ 0) then (some true) else ((bif decide (i38 > 0) then ((getI r19 (wrap .i64 (i38 - 1))).bind fun x48=>((getI r19 i38).bind fun x55=>(some (decide (x48.Slack > x55.Slack))))) else (some false)).bind fun c48=>(some c48))).bind fun c48=>(bif c48 then (some false) else (F_3_L2 r19 i31 k2 m (wrap .i64 (i38 + 1)))))) else (k2 i38))
def F_3_L1 (r9:List S_Check) (k0:Int→Int→Option Bool):Nat→Int→Int→Option Bool
  | 0, _, _=>none
  | m + 1, i31, i33=>(bif decide (i33 < (r9.length:Int)) then ((getI r9 i33).bind fun x36=>(bif decide (x36.Slack < 0) then (F_3_L1 r9 k0 m (wrap .i64 (i31 + 1)) (wrap .i64 (i33 + 1))) else (F_3_L1 r9 k0 m i31 (wrap .i64 (i33 + 1))))) else (k0 i31 i33))
def F_3 (n:Nat) (a0:List Int):Option Bool:=((F_k n a0).bind fun r3=>(bif r3 then (some true) else ((F_g n a0).bind fun r9=>((F_i n r9).bind fun r19=>(F_3_L1 r9 (fun i31 i33=>(bif (((r19.length:Int)) != i31) then (some false) else (F_3_L2 r19 i31 (fun i38=>((F_6 n r9).bind fun r41=>(bif (((r9.length:Int)) == 0) then (some ((r41 == (-1)))) else ((bif ((decide (r41 ≥ 0)) && (decide (r41 < (r9.length:Int)))) then ((bif (i31 == 0) then ((getI r9 r41).bind fun x48=>(some (decide (x48.Slack ≥ 0)))) else (some false)).bind fun c48=>((bif c48 then (some true) else ((bif decide (i31 > 0) then ((getI r9 r41).bind fun x58=>((getI r19 0).bind fun x65=>(some (((x58.Instance == x65.Instance) && ((x58.Arc == x65.Arc) && ((x58.Transition == x65.Transition) && (x58.Slack == x65.Slack)))))))) else (some false)).bind fun c58=>(some c58))).bind fun c58=>(some c58))) else (some false)).bind fun c48=>(some c48))))) n 0))) n 0 0)))))
theorem W_3 {A0:List Int} {r:Bool} {J0:Value} (hF:F_3 n A0 = some r) (hH:H ≤ w.heap.size) (C0:slRep (cInt .u8) w (Iv 0 H) A0 J0) :
    Calls prog 3 [J0].toArray w (Ret fun u w0 => u = .bool r∧Ext w w0):=by
  refine calls_ofD func3 rfl ntmps3 ?_;have D0:=Ext.refl w;unfold F_3 at hF;refine Rc 9 ?_;have ⟨b1,g0,hF⟩:=bsome hF;refine Ef rfl (eca rfl gf_5 (W_k g0 (by omega) (C0.oh hH D0) :)) ?_;rintro _ L0 ⟨rfl,o0⟩;have ⟨x,X1⟩:=Et D0 o0;refine Ro 2 (Wc rfl hF ?_ ?_)
  · intro hF;refine Rc 7 ?_;cases szt hF;exact Ne rfl rfl ⟨_,rfl,rfl,x⟩
  · intro hF;refine Rc 5 ?_;have ⟨B,b0,hF⟩:=bsome hF;refine Ef rfl (eca rfl gf_6 (W_g b0 (by omega) (C0.oh hH x) :)) ?_;rintro G K0 ⟨_,rfl,Z,m0⟩;have ⟨Z0,T1⟩:=Et x m0;have J1:=ownR.blk Z;refine Ro 6 ?_;have ⟨K,f0,hF⟩:=bsome hF;refine Ef rfl (eca rfl gf_7 (W_i f0 nr (ownR.slf Z (Nat.zero_le _) nr) :)) ?_;rintro I x0 ⟨_,rfl,H0,I0⟩;have ⟨a0,U1⟩:=Et Z0 I0;have Z:=Z.ext I0;have K1:=ownR.blk H0;refine Ro 15 ?_;refine WC.loopD (fun S a wl => ∃ (A:Int) (R:Int),Kn 103 [(3,G),(4,I),(5,.i A),(6,.i R)] a∧Ext w wl∧x0.heap.size ≤ wl.heap.size∧ownR C_Check wl (L0.heap.size) (Iv 0 0) 28 B G∧ownR C_Check wl (K0.heap.size) (Iv 0 0) 28 K I∧F_3_L1 B (fun A R => (bif (((K.length:Int)) != A) then (some false) else (F_3_L2 K A (fun a1 => (Option.bind (F_6 n B) fun e => (bif (((B.length:Int)) == 0) then (some ((e == (-1)))) else (Option.bind (bif ((decide (e ≥ 0)) && (decide (e < (B.length:Int)))) then (Option.bind (bif (A == 0) then (Option.bind (getI B e) fun z0 => (some (decide (z0.Slack ≥ 0)))) else (some false)) fun q => (Option.bind (bif q then (some true) else (Option.bind (bif decide (A > 0) then (Option.bind (getI B e) fun m => (Option.bind (getI K 0) fun g => (some (((m.Instance == g.Instance) && ((m.Arc == g.Arc) && ((m.Transition == g.Transition) && (m.Slack == g.Slack)))))))) else (some false)) fun t => (some t))) fun t => (some t))) else (some false)) fun q => (some q))))) n 0))) S A R = some r) n ?_ ?_
    · intro a hK;exact ⟨0,0,hK.sub rfl,a0,Nat.le_refl _,Z,H0,hF⟩
    · rintro S a y0 ⟨A,R,hK,i,V1,c,j,hF⟩;revert a;change WC _ _ _ _ _ _
      cases S with
      | zero => exact nos hF
      | succ S =>
        rw [F_3_L1.eq_2] at hF;refine Rc 5 (Yl rfl (ylo rfl underlying24 c) (Ro 3 (Wc rfl hF ?_ ?_)))
        · intro hF;refine Rc 8 ?_;have ⟨n1,r0,hF⟩:=bsome hF;refine Ye rfl (yio rfl underlying24 cn_28 c r0) ?_;rintro _ ⟨E1,f1,rfl,N1,h0,U0⟩;obtain rfl:=C_Check_open h0;refine Yl rfl (yfa rfl fo_28_3) (Yl rfl (ylc 3 rfl ag_2 U0 rfl rfl) (Ro 3 (Wc rfl hF ?_ ?_)))
          · intro hF;refine Rc 13 ?_;intro a hK;exact ⟨S,nr,(wrap .i64 (A + 1)),(wrap .i64 (R + 1)),hK.sub rfl,i,(by omega),c,j,hF⟩
          · intro hF;refine Rc 9 ?_;intro a hK;exact ⟨S,nr,A,(wrap .i64 (R + 1)),hK.sub rfl,i,(by omega),c,j,hF⟩
        · intro hF;refine Rc 9 (Yl rfl (ylo rfl underlying24 j) (Ro 4 (Wc rfl hF ?_ ?_)))
          · intro hF;refine Rc 7 ?_;cases szt hF;exact Ne rfl rfl ⟨_,rfl,rfl,i⟩
          · intro hF;refine Rc 9 ?_;refine WC.loopD (fun d a wl => ∃ (C:Int),Kn 103 [(3,G),(4,I),(5,.i A),(7,.i C)] a∧Ext w wl∧y0.heap.size ≤ wl.heap.size∧ownR C_Check wl (L0.heap.size) (Iv 0 0) 28 B G∧ownR C_Check wl (K0.heap.size) (Iv 0 0) 28 K I∧F_3_L2 K A (fun C => (Option.bind (F_6 n B) fun f => (bif (((B.length:Int)) == 0) then (some ((f == (-1)))) else (Option.bind (bif ((decide (f ≥ 0)) && (decide (f < (B.length:Int)))) then (Option.bind (bif (A == 0) then (Option.bind (getI B f) fun B1 => (some (decide (B1.Slack ≥ 0)))) else (some false)) fun s => (Option.bind (bif s then (some true) else (Option.bind (bif decide (A > 0) then (Option.bind (getI B f) fun o => (Option.bind (getI K 0) fun p => (some (((o.Instance == p.Instance) && ((o.Arc == p.Arc) && ((o.Transition == p.Transition) && (o.Slack == p.Slack)))))))) else (some false)) fun v => (some v))) fun v => (some v))) else (some false)) fun s => (some s))))) d C = some r) n ?_ ?_
            · intro a hK;exact ⟨0,hK.sub rfl,i,Nat.le_refl _,c,j,hF⟩
            · rintro d a k1 ⟨C,hK,E0,W1,D,E,hF⟩;revert a;change WC _ _ _ _ _ _
              cases d with
              | zero => exact nos hF
              | succ d =>
                rw [F_3_L2.eq_2] at hF;refine Rc 8 (Wc rfl hF ?_ ?_)
                · intro hF;refine Rc 5 (WC.quiet Try.hm (by kernel_rfl) (Qr 2 ?_));have ⟨A1,s0,hF⟩:=bsome hF;refine Qe rfl (yio rfl underlying24 cn_28 E s0) ?_;rintro _ ⟨F1,g1,rfl,O1,i0,V0⟩;obtain rfl:=C_Check_open i0;refine Qy rfl (yfa rfl fo_28_3) (Qy rfl (ylc 3 rfl ag_2 V0 rfl rfl) (Qr 2 ?_));have ⟨O0,N,hF⟩:=bsome hF;refine QL.cut 17 [(3,G),(4,I),(5,.i A),(7,.i C),(61,.bool O0)] ?_ ?_
                  · rcases bft (decide (A1.Slack ≥ 0)) with V | V
                    · replace N:=bif_t V N;refine Kq 44 V rfl (Qr 16 ?_);obtain rfl:=szs N;exact Qr 1 (QL.nil fun a h => h.sub rfl)
                    · replace N:=bif_f V N;refine Kq 44 V rfl ?_;replace hF:=N;refine Qr 3 ?_;have ⟨P0,O,hF⟩:=bsome hF;refine QL.cut 13 [(3,G),(4,I),(5,.i A),(7,.i C),(44,.bool false),(45,.i C),(46,.bool (decide (C > 0))),(47,.bool (decide (C > 0))),(60,.bool P0)] ?_ ?_
                      · rcases bft (decide (C > 0)) with J | J
                        · replace O:=bif_t J O;refine Kq 47 J rfl ?_;replace hF:=O;refine Qr 3 ?_;have ⟨g,t0,hF⟩:=bsome hF;refine Qe rfl (yio rfl underlying24 cn_28 E t0) ?_;rintro _ ⟨G1,h1,rfl,P1,j0,W0⟩;obtain rfl:=C_Check_open j0;refine Qy rfl (yfa rfl fo_28_3) (Qy rfl (ylc 3 rfl ag_2 W0 rfl rfl) (Qr 2 ?_));have ⟨o1,u0,hF⟩:=bsome hF;refine Qe rfl (yio rfl underlying24 cn_28 E u0) ?_;rintro _ ⟨H1,i1,rfl,Q1,k0,X0⟩;obtain rfl:=C_Check_open k0;refine Qy rfl (yfa rfl fo_28_3) (Qy rfl (ylc 3 rfl ag_2 X0 rfl rfl) (Qr 1 ?_));cases szt hF;exact Qr 1 (Kq 47 (Eq.symm J) rfl (QL.nil fun a h => h.sub rfl))
                        · replace O:=bif_f J O;refine Kq 47 J rfl (Qr 12 ?_);obtain rfl:=szs O;exact Qr 1 (Kq 47 (Eq.symm J) rfl (QL.nil fun a h => h.sub rfl))
                      cases szt hF;exact Qr 1 (QL.nil fun a h => h.sub rfl)
                  refine QL.done fun l1 y => ?_;have ⟨F0,Y1⟩:=Et E0 y;have D:=D.ext y;have E:=E.ext y;refine Re 1 (Wc rfl hF ?_ ?_)
                  · intro hF;refine Rc 11 ?_;cases szt hF;exact Ne rfl rfl ⟨_,rfl,rfl,F0⟩
                  · intro hF;refine Rc 9 ?_;intro a hK;exact ⟨d,nr,(wrap .i64 (C + 1)),hK.sub rfl,F0,(by omega),D,E,hF⟩
                · intro hF;refine Rc 8 ?_;have ⟨F,l0,hF⟩:=bsome hF;refine Ef rfl (eca rfl gf_8 (W_6 l0 nr (ownR.slf D (Nat.zero_le _) nr) :)) ?_;rintro _ m1 ⟨rfl,z⟩;have ⟨G0,Z1⟩:=Et E0 z;have D:=D.ext z;have E:=E.ext z;refine Ro 7 (Yl rfl (ylo rfl underlying24 D) (Ro 3 (Wc rfl hF ?_ ?_)))
                  · intro hF;refine Rc 9 ?_;cases szt hF;exact Ne rfl rfl ⟨_,rfl,rfl,G0⟩
                  · intro hF;refine Rc 3 (WC.quiet Try.hm (by kernel_rfl) (Qr 3 (QL.cut 5 [(3,G),(4,I),(5,.i A),(8,.i F),(76,.bool (((decide (F ≥ 0)) && (decide (F < (B.length:Int))))))] ?_ ?_)))
                    · rcases bft (decide (F ≥ 0)) with W | W
                      · exact Kq 71 W rfl (Qr 2 (Qy rfl (ylo rfl underlying24 D) (Qr 2 (Kq 76 (ant (b:=decide (F < (B.length:Int))) W) rfl (QL.nil fun a h => h.sub rfl)))))
                      · exact Kq 71 W rfl (Qr 5 (Kq 76 (anf (b:=decide (F < (B.length:Int))) W) rfl (QL.nil fun a h => h.sub rfl)))
                    refine Qr 1 ?_;have ⟨Q0,P,hF⟩:=bsome hF;refine QL.cut 25 [(102,.bool Q0)] ?_ ?_
                    · rcases bft (((decide (F ≥ 0)) && (decide (F < (B.length:Int))))) with X | X
                      · replace P:=bif_t X P;refine Kq 77 X rfl ?_;replace hF:=P;refine Qr 3 ?_;have ⟨B0,Q,hF⟩:=bsome hF;refine QL.cut 7 [(3,G),(4,I),(5,.i A),(8,.i F),(77,.bool true),(87,.bool B0)] ?_ ?_
                        · rcases bft ((A == 0)) with Y | Y
                          · replace Q:=bif_t Y Q;refine Kq 80 Y rfl ?_;replace hF:=Q;refine Qr 2 ?_;have ⟨p1,v0,hF⟩:=bsome hF;refine Qe rfl (yio rfl underlying24 cn_28 D v0) ?_;rintro _ ⟨I1,c1,rfl,R1,c0,R0⟩;obtain rfl:=C_Check_open c0;refine Qy rfl (yfa rfl fo_28_3) (Qy rfl (ylc 3 rfl ag_2 R0 rfl rfl) (Qr 1 ?_));cases szt hF;exact Qr 1 (QL.nil fun a h => h.sub rfl)
                          · replace Q:=bif_f Y Q;refine Kq 80 Y rfl (Qr 6 ?_);obtain rfl:=szs Q;exact Qr 1 (QL.nil fun a h => h.sub rfl)
                        refine Qr 1 ?_;have ⟨M0,L,hF⟩:=bsome hF;refine QL.cut 13 [(77,.bool true),(101,.bool M0)] ?_ ?_
                        · rcases bft B0 with T | T
                          · replace L:=bif_t T L;refine Kq 88 T rfl (Qr 12 ?_);obtain rfl:=szs L;exact Qr 1 (QL.nil fun a h => h.sub rfl)
                          · replace L:=bif_f T L;refine Kq 88 T rfl ?_;replace hF:=L;refine Qr 3 ?_;have ⟨N0,M,hF⟩:=bsome hF;refine QL.cut 9 [(77,.bool true),(88,.bool false),(100,.bool N0)] ?_ ?_
                            · rcases bft (decide (A > 0)) with U | U
                              · replace M:=bif_t U M;refine Kq 91 U rfl ?_;replace hF:=M;refine Qr 2 ?_;have ⟨k,p0,hF⟩:=bsome hF;refine Qe rfl (yio rfl underlying24 cn_28 D p0) ?_;rintro _ ⟨C1,d1,rfl,L1,d0,S0⟩;obtain rfl:=C_Check_open d0;refine Qy rfl (yln (us:=[.i k.Instance,.i k.Arc,.i k.Transition,.i k.Slack]) rfl ag_28 S0 cn_28) (Qr 1 ?_);have ⟨l,q0,hF⟩:=bsome hF;refine Qe rfl (yio rfl underlying24 cn_28 E q0) ?_;rintro _ ⟨D1,e1,rfl,M1,e0,T0⟩;obtain rfl:=C_Check_open e0;refine Qy rfl (yln (us:=[.i l.Instance,.i l.Arc,.i l.Transition,.i l.Slack]) rfl ag_28 T0 cn_28) (Qy rfl (yeS rfl rfl rfl es_28 (oc_28 _ _ _ _) rfl) ?_);cases szt hF;exact Qr 1 (QL.nil fun a h => h.sub rfl)
                              · replace M:=bif_f U M;refine Kq 91 U rfl (Qr 8 ?_);obtain rfl:=szs M;exact Qr 1 (QL.nil fun a h => h.sub rfl)
                            cases szt hF;exact Qr 1 (QL.nil fun a h => h.sub rfl)
                        cases szt hF;exact Qr 1 (QL.nil fun a h => h.sub rfl)
                      · replace P:=bif_f X P;refine Kq 77 X rfl (Qr 24 ?_);obtain rfl:=szs P;exact Qr 1 (QL.nil fun a h => h.sub rfl)
                    refine Qr 1 ?_;refine QL.done fun j1 n0 => ?_;have ⟨Y0,S1⟩:=Et G0 n0;refine Re 2 ?_;cases szt hF;exact Ne rfl rfl ⟨_,rfl,rfl,Y0⟩
end Go.Proofs.Ytjhainjcamfohaa
