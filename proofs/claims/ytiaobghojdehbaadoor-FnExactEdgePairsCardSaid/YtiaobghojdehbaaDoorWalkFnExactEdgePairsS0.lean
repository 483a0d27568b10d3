/- The walks: every function that FnExactEdgePairs reaches computes the plain function that is typed beside it; no condition. -/
import Derived.Test.YtiaobghojdehbaaDoorWalkFnExactEdgePairsB0
set_option linter.all false
set_option maxRecDepth 20000
set_option maxHeartbeats 40000000
namespace Go.Proofs.YtiaobghojdehbaaDoor
open Go Go.RowKit Go.Eng Go.Proofs.Tryd
open Go.IntKind (wrap)
variable {n H:Nat} {w:World}
def F_0 (n:Nat) (a0:Int) (a1:Int) (a2:Int):Option Bool:=(some (((decide (a0 ≥ a1)) && (decide (a0 ≤ a2)))))
theorem W_0 {A:Int} {D:Int} {B:Int} {r:Bool} (hF:F_0 n A D B = some r) :
    Calls prog 25 [.i A,.i D,.i B].toArray w (Ret fun u E => u = .bool r∧Ext w E):=by
  refine calls_ofD func25 rfl ntmps25 ?_;have F:Ext w w:=Ext.refl w;unfold F_0 at hF;refine Rc 11 ?_;refine TL.cutD 4 [(14,.bool (((decide (A ≥ D)) && (decide (A ≤ B)))))] (fun w' => Ext w w') ?_ ?_
  · rcases Bool.eq_false_or_eq_true (decide (A ≥ D)) with C | C
    · exact Kc 10 C rfl (Ro 4 (Kc 14 (ant (b:=decide (A ≤ B)) C) rfl (TL.nil fun a h => ⟨h.sub rfl,Ext.refl _⟩)))
    · exact Kc 10 C rfl (Ro 4 (Kc 14 (anf (b:=decide (A ≤ B)) C) rfl (TL.nil fun a h => ⟨h.sub rfl,Ext.refl _⟩)))
  intro E H;obtain ⟨G,I⟩:=Et F H;refine Ro 4 ?_;obtain rfl:=szs hF;exact Ne rfl rfl ⟨_,rfl,rfl,G⟩
def F_1:Nat→(List S_Clock)→Int→Option S_l14Wave
  | 0=>fun _ _=>none
  | n + 1=>fun a0 a1=>((getI a0 a1).bind fun x10=>(bif decide (x10.Source < 0) then (some ((S_l14Wave.mk x10.Period x10.RiseAt x10.FallAt))) else ((F_1 n a0 x10.Source).bind fun r36=>(bif decide (x10.Divide > 1) then (bif x10.Invert then (some ((S_l14Wave.mk (wrap .i64 (r36.period_ * x10.Divide)) (wrap .i64 (r36.rise_ + (wrap .i64 ((wrap .i64 (Int.tdiv x10.Divide 2)) * r36.period_)))) r36.rise_))) else (some ((S_l14Wave.mk (wrap .i64 (r36.period_ * x10.Divide)) r36.rise_ (wrap .i64 (r36.rise_ + (wrap .i64 ((wrap .i64 (Int.tdiv x10.Divide 2)) * r36.period_)))))))) else (bif x10.Invert then (some ((S_l14Wave.mk r36.period_ r36.fall_ r36.rise_))) else (some r36))))))
theorem F_0l (a0_list : List S_Clock) (a1_k : Int) : F_1 0 a0_list a1_k = none := rfl
theorem F_0i (n : Nat) (a0_list : List S_Clock) (a1_k : Int) : F_1 (n + 1) a0_list a1_k = (Option.bind (getI a0_list a1_k) fun x10 => (bif decide (x10.Source < 0) then (some ((S_l14Wave.mk x10.Period x10.RiseAt x10.FallAt))) else (Option.bind (F_1 n a0_list x10.Source) fun r36 => (bif decide (x10.Divide > 1) then (bif x10.Invert then (some ((S_l14Wave.mk (wrap .i64 (r36.period_ * x10.Divide)) (wrap .i64 (r36.rise_ + (wrap .i64 ((wrap .i64 (Int.tdiv x10.Divide 2)) * r36.period_)))) r36.rise_))) else (some ((S_l14Wave.mk (wrap .i64 (r36.period_ * x10.Divide)) r36.rise_ (wrap .i64 (r36.rise_ + (wrap .i64 ((wrap .i64 (Int.tdiv x10.Divide 2)) * r36.period_)))))))) else (bif x10.Invert then (some ((S_l14Wave.mk r36.period_ r36.fall_ r36.rise_))) else (some r36)))))) := rfl
theorem W_1 {n:Nat} {R:List S_Clock} {S:Int} {r:S_l14Wave} {w:World} {b:Value} {H:Nat} (hF:F_1 n R S = some r) (hH:H ≤ w.heap.size) (T:slRep C_Clock w (Iv 0 H) R b) :
    Calls prog 28 [b,.i S].toArray w (Ret fun u I0 => u = .agg #[.i r.period_,.i r.rise_,.i r.fall_]∧Ext w I0):=by
  cases n with
  | zero=>rw [F_0l] at hF;cases hF
  | succ n =>
    refine calls_ofD func28 rfl ntmps28 ?_;have p:Ext w w:=Ext.refl w;rw [F_0i] at hF;refine Rc 2 (Ef rfl (eff_alloc rfl zn_59) ?_);rintro _ t0 ⟨F,rfl,Z0,a0,D0,C⟩;obtain ⟨V,o0⟩:=Et p D0;refine Ro 6 ?_;have ⟨B,H0,hF⟩:=bsome hF;refine Ye rfl (yix rfl underlying27 cn_39 (T.oh hH V) H0) ?_;rintro _ ⟨T0,p0,q0,rfl,U0,E0,o⟩;obtain rfl:=C_Clock_open E0;refine Yl rfl (yln (us:=[.string B.Name,.i B.Place,.i B.Period,.i B.RiseAt,.i B.FallAt,.i B.Source,.i B.Divide,.bool B.Invert,.i B.EarlyLatency,.i B.LateLatency,.i B.Uncertainty]) rfl ag_39 o cn_39) (Ef rfl (eff_alloc rfl zn_39) ?_);rintro _ r0 ⟨c,rfl,V0,W0,W,D⟩;obtain ⟨q,b0⟩:=Et V W;have C:=C.ext W;refine Ef rfl (est rfl D cn_39 rfl rfl) ?_;rintro _ J0 ⟨X,d⟩;obtain ⟨I,c0⟩:=Eu q X (by omega);have C:=C.upd X (by omega);have D:Box J0 c [.string B.Name,.i B.Place,.i B.Period,.i B.RiseAt,.i B.FallAt,.i B.Source,.i B.Divide,.bool B.Invert,.i B.EarlyLatency,.i B.LateLatency,.i B.Uncertainty] 39:=d;refine Ro 5 (Yl rfl (yfa rfl fo_39_5) (Yl rfl (ylb rfl ag_2 D rfl) (Ro 3 (Wc rfl hF ?_ ?_))))
    · intro hF;refine Rc 2 (Yl rfl (yfa rfl fo_39_2) (Yl rfl (ylb rfl ag_2 D rfl) (Yl rfl (yfa rfl fo_39_3) (Yl rfl (ylb rfl ag_2 D rfl) (Yl rfl (yfa rfl fo_39_4) (Yl rfl (ylb rfl ag_2 D rfl) (Yl rfl (yld_build (uss:=[(0,[.i B.Period]),(1,[.i B.RiseAt]),(2,[.i B.FallAt])]) (out:=[.i B.Period,.i B.RiseAt,.i B.FallAt]) rfl rfl zn_59 pl_59 rfl rfl) (Ef rfl (est rfl C cn_59 rfl rfl) ?_))))))));rintro _ K0 ⟨Y,e⟩;obtain ⟨s,d0⟩:=Eu I Y (by omega);have D:=D.upd Y (by omega);have C:Box K0 F [.i B.Period,.i B.RiseAt,.i B.FallAt] 59:=e;refine Ro 4 ?_;obtain rfl:=szs hF;exact NX.end (rs:=[.cell 4 59]) (vs:=[.agg #[.i B.Period,.i B.RiseAt,.i B.FallAt]]) rfl ⟨⟨F,rfl,box_load ag_59 cn_59 C⟩,trivial⟩ ⟨_,rfl,rfl,s⟩
    · intro hF;refine Rc 5 (Yl rfl (yfa rfl fo_39_5) (Yl rfl (ylb rfl ag_2 D rfl) ?_));have ⟨A,F0,hF⟩:=bsome hF;refine Ef rfl (eca rfl gf_28 (W_1 F0 (by omega) (T.oh hH I) :)) ?_;rintro _ s0 ⟨rfl,Q⟩;obtain ⟨t,e0⟩:=Et I Q;have C:=C.ext Q;have D:=D.ext Q;refine Ef rfl (eff_alloc rfl zn_59) ?_;rintro _ u0 ⟨G,rfl,X0,Y0,K,E⟩;obtain ⟨v,f0⟩:=Et t K;have C:=C.ext K;have D:=D.ext K;refine Ef rfl (est rfl E cn_59 rfl rfl) ?_;rintro _ L0 ⟨L,f⟩;obtain ⟨J,g0⟩:=Eu v L (by omega);have C:=C.upd L (by omega);have D:=D.upd L (by omega);have E:Box L0 G [.i A.period_,.i A.rise_,.i A.fall_] 59:=f;refine Ro 5 (Yl rfl (yfa rfl fo_39_6) (Yl rfl (ylb rfl ag_2 D rfl) (Ro 3 (Wc rfl hF ?_ ?_))))
      · intro hF;refine Rc 1 (Yl rfl (yfa rfl fo_59_0) (Yl rfl (ylb rfl ag_2 E rfl) (Yl rfl (yfa rfl fo_39_6) (Yl rfl (ylb rfl ag_2 D rfl) (Ro 1 (Yl rfl (yfa rfl fo_59_1) (Yl rfl (ylb rfl ag_2 E rfl) (Yl rfl (yfa rfl fo_59_1) (Yl rfl (ylb rfl ag_2 E rfl) (Yl rfl (yfa rfl fo_39_6) (Yl rfl (ylb rfl ag_2 D rfl) (Ro 1 (Yl rfl (yfa rfl fo_59_0) ?_)))))))))))));refine Yl rfl (ylb rfl ag_2 E rfl) (Ro 2 (Yl rfl (yld_build (uss:=[(0,[.i (wrap .i64 (A.period_ * B.Divide))]),(1,[.i A.rise_]),(2,[.i (wrap .i64 (A.rise_ + (wrap .i64 ((wrap .i64 (Int.tdiv B.Divide 2)) * A.period_))))])]) (out:=[.i (wrap .i64 (A.period_ * B.Divide)),.i A.rise_,.i (wrap .i64 (A.rise_ + (wrap .i64 ((wrap .i64 (Int.tdiv B.Divide 2)) * A.period_))))]) rfl rfl zn_59 pl_59 rfl rfl) (Ef rfl (est rfl E cn_59 rfl rfl) ?_)));rintro _ M0 ⟨M,g⟩;obtain ⟨U,h0⟩:=Eu J M (by omega);have C:=C.upd M (by omega);have D:=D.upd M (by omega);have E:Box M0 G [.i (wrap .i64 (A.period_ * B.Divide)),.i A.rise_,.i (wrap .i64 (A.rise_ + (wrap .i64 ((wrap .i64 (Int.tdiv B.Divide 2)) * A.period_))))] 59:=g;refine Ro 5 (Yl rfl (yfa rfl fo_39_7) (Yl rfl (ylb rfl ag_4 D rfl) (Ro 2 (Wc rfl hF ?_ ?_))))
        · intro hF;refine Rc 1 (Yl rfl (yfa rfl fo_59_0) (Yl rfl (ylb rfl ag_2 E rfl) (Yl rfl (yfa rfl fo_59_2) (Yl rfl (ylb rfl ag_2 E rfl) (Yl rfl (yfa rfl fo_59_1) (Yl rfl (ylb rfl ag_2 E rfl) (Yl rfl (yld_build (uss:=[(0,[.i (wrap .i64 (A.period_ * B.Divide))]),(1,[.i (wrap .i64 (A.rise_ + (wrap .i64 ((wrap .i64 (Int.tdiv B.Divide 2)) * A.period_))))]),(2,[.i A.rise_])]) (out:=[.i (wrap .i64 (A.period_ * B.Divide)),.i (wrap .i64 (A.rise_ + (wrap .i64 ((wrap .i64 (Int.tdiv B.Divide 2)) * A.period_)))),.i A.rise_]) rfl rfl zn_59 pl_59 rfl rfl) (Ef rfl (est rfl E cn_59 rfl rfl) ?_))))))));rintro _ N0 ⟨N,h⟩;obtain ⟨x,i0⟩:=Eu U N (by omega);have C:=C.upd N (by omega);have D:=D.upd N (by omega);have E:Box N0 G [.i (wrap .i64 (A.period_ * B.Divide)),.i (wrap .i64 (A.rise_ + (wrap .i64 ((wrap .i64 (Int.tdiv B.Divide 2)) * A.period_)))),.i A.rise_] 59:=h;refine Ro 4 (Yl rfl (ynb rfl ag_59 E cn_59) (Ef rfl (est rfl C cn_59 rfl rfl) ?_));rintro _ O0 ⟨O,i⟩;obtain ⟨y,j0⟩:=Eu x O (by omega);have D:=D.upd O (by omega);have E:=E.upd O (by omega);have C:Box O0 F [.i (wrap .i64 (A.period_ * B.Divide)),.i (wrap .i64 (A.rise_ + (wrap .i64 ((wrap .i64 (Int.tdiv B.Divide 2)) * A.period_)))),.i A.rise_] 59:=i;refine Ro 3 ?_;obtain rfl:=szs hF;exact NX.end (rs:=[.cell 4 59]) (vs:=[.agg #[.i (wrap .i64 (A.period_ * B.Divide)),.i (wrap .i64 (A.rise_ + (wrap .i64 ((wrap .i64 (Int.tdiv B.Divide 2)) * A.period_)))),.i A.rise_]]) rfl ⟨⟨F,rfl,box_load ag_59 cn_59 C⟩,trivial⟩ ⟨_,rfl,rfl,y⟩
        · intro hF;refine Rc 4 (Yl rfl (ynb rfl ag_59 E cn_59) (Ef rfl (est rfl C cn_59 rfl rfl) ?_));rintro _ P0 ⟨P,j⟩;obtain ⟨z,k0⟩:=Eu U P (by omega);have D:=D.upd P (by omega);have E:=E.upd P (by omega);have C:Box P0 F [.i (wrap .i64 (A.period_ * B.Divide)),.i A.rise_,.i (wrap .i64 (A.rise_ + (wrap .i64 ((wrap .i64 (Int.tdiv B.Divide 2)) * A.period_))))] 59:=j;refine Ro 3 ?_;obtain rfl:=szs hF;exact NX.end (rs:=[.cell 4 59]) (vs:=[.agg #[.i (wrap .i64 (A.period_ * B.Divide)),.i A.rise_,.i (wrap .i64 (A.rise_ + (wrap .i64 ((wrap .i64 (Int.tdiv B.Divide 2)) * A.period_))))]]) rfl ⟨⟨F,rfl,box_load ag_59 cn_59 C⟩,trivial⟩ ⟨_,rfl,rfl,z⟩
      · intro hF;refine Rc 5 (Yl rfl (yfa rfl fo_39_7) (Yl rfl (ylb rfl ag_4 D rfl) (Ro 2 (Wc rfl hF ?_ ?_))))
        · intro hF;refine Rc 1 (Yl rfl (yfa rfl fo_59_0) (Yl rfl (ylb rfl ag_2 E rfl) (Yl rfl (yfa rfl fo_59_2) (Yl rfl (ylb rfl ag_2 E rfl) (Yl rfl (yfa rfl fo_59_1) (Yl rfl (ylb rfl ag_2 E rfl) (Yl rfl (yld_build (uss:=[(0,[.i A.period_]),(1,[.i A.fall_]),(2,[.i A.rise_])]) (out:=[.i A.period_,.i A.fall_,.i A.rise_]) rfl rfl zn_59 pl_59 rfl rfl) (Ef rfl (est rfl E cn_59 rfl rfl) ?_))))))));rintro _ Q0 ⟨Z,k⟩;obtain ⟨A0,l0⟩:=Eu J Z (by omega);have C:=C.upd Z (by omega);have E:Box Q0 G [.i A.period_,.i A.fall_,.i A.rise_] 59:=k;refine Ro 4 (Yl rfl (ynb rfl ag_59 E cn_59) (Ef rfl (est rfl C cn_59 rfl rfl) ?_));rintro _ R0 ⟨a,l⟩;obtain ⟨B0,m0⟩:=Eu A0 a (by omega);have E:=E.upd a (by omega);have C:Box R0 F [.i A.period_,.i A.fall_,.i A.rise_] 59:=l;refine Ro 3 ?_;obtain rfl:=szs hF;exact NX.end (rs:=[.cell 4 59]) (vs:=[.agg #[.i A.period_,.i A.fall_,.i A.rise_]]) rfl ⟨⟨F,rfl,box_load ag_59 cn_59 C⟩,trivial⟩ ⟨_,rfl,rfl,B0⟩
        · intro hF;refine Rc 4 (Yl rfl (ynb rfl ag_59 E cn_59) (Ef rfl (est rfl C cn_59 rfl rfl) ?_));rintro _ S0 ⟨G0,m⟩;obtain ⟨C0,n0⟩:=Eu J G0 (by omega);have C:Box S0 F [.i A.period_,.i A.rise_,.i A.fall_] 59:=m;refine Ro 3 ?_;obtain rfl:=szs hF;exact NX.end (rs:=[.cell 4 59]) (vs:=[.agg #[.i A.period_,.i A.rise_,.i A.fall_]]) rfl ⟨⟨F,rfl,box_load ag_59 cn_59 C⟩,trivial⟩ ⟨_,rfl,rfl,C0⟩
termination_by n
def F_5_L1 (a0:ByteArray) (k0:Int→Option Bool):Nat→Int→Option Bool
  | 0, _=>none
  | m + 1, i3=>(bif decide (i3 < (a0.size:Int)) then ((getB a0 i3).bind fun x4=>((bif decide (x4 ≥ 97) then ((getB a0 i3).bind fun x6=>(some (decide (x6 ≤ 122)))) else (some false)).bind fun c6=>((getB a0 i3).bind fun x15=>((bif decide (x15 ≥ 48) then ((getB a0 i3).bind fun x17=>(some (decide (x17 ≤ 57)))) else (some false)).bind fun c17=>(bif ((!c6) && ((!((c17 && (decide (i3 > 0))))))) then (some false) else (F_5_L1 a0 k0 m (wrap .i64 (i3 + 1)))))))) else (k0 i3))
def F_5 (n:Nat) (a0:ByteArray):Option Bool:=(F_5_L1 a0 (fun i3=>(some (((decide ((a0.size:Int) ≥ 1)) && (decide ((a0.size:Int) ≤ 8)))))) n 0)
theorem W_5 {A:ByteArray} {r:Bool} (hF:F_5 n A = some r) :
    Calls prog 45 [.string A].toArray w (Ret fun u g => u = .bool r∧Ext w g):=by
  refine calls_ofD func45 rfl ntmps45 ?_;have S:Ext w w:=Ext.refl w;unfold F_5 at hF;refine Rc 12 ?_;refine WC.loopD (fun K a wl => ∃ (B:Int),Kn 50 [(0,.string A),(3,.i B)] a∧Ext w wl∧w.heap.size ≤ wl.heap.size∧F_5_L1 A (fun B => (some (((decide ((A.size:Int) ≥ 1)) && (decide ((A.size:Int) ≤ 8)))))) K B = some r) n ?_ ?_
  · intro a hK;exact ⟨0,hK.sub rfl,S,Nat.le_refl _,hF⟩
  · rintro K a Q ⟨B,hK,M,s,hF⟩;revert a;change WC _ _ _ _ _ _
    cases K with
    | zero => exact nos hF
    | succ K =>
      rw [F_5_L1.eq_2] at hF;refine Rc 5 (Yl rfl (yld_lens rfl underlying9 rfl) (Ro 3 (Wc rfl hF ?_ ?_)))
      · intro hF;refine Rc 8 ?_;have ⟨j,e,hF⟩:=bsome hF;refine Yl rfl (yld_indexStr rfl underlying9 rfl rfl e) (Ro 2 ?_);have ⟨L,F,hF⟩:=bsome hF;refine TL.cutD 5 [(0,.string A),(3,.i B),(21,.bool L)] (fun w' => Ext Q w') ?_ ?_
        · rcases Bool.eq_false_or_eq_true (decide (j ≥ 97)) with G | G
          · replace F:=bif_t G F;refine Kc 16 G rfl ?_;replace hF:=F;refine Ro 2 ?_;have ⟨y,Z,hF⟩:=bsome hF;refine Yl rfl (yld_indexStr rfl underlying9 rfl rfl Z) (Ro 1 ?_);obtain rfl:=szs hF;exact Ro 1 (TL.nil fun a h => ⟨h.sub rfl,Ext.refl _⟩)
          · replace F:=bif_f G F;refine Kc 16 G rfl (Ro 4 ?_);obtain rfl:=szs F;exact Ro 1 (TL.nil fun a h => ⟨h.sub rfl,Ext.refl _⟩)
        intro f V;obtain ⟨T,l⟩:=Et M V;refine Ro 7 ?_;have ⟨i,c,hF⟩:=bsome hF;refine Yl rfl (yld_indexStr rfl underlying9 rfl rfl c) (Ro 2 ?_);have ⟨C,E,hF⟩:=bsome hF;refine TL.cutD 5 [(0,.string A),(3,.i B),(4,.bool L),(31,.bool C)] (fun w' => Ext f w') ?_ ?_
        · rcases Bool.eq_false_or_eq_true (decide (i ≥ 48)) with H | H
          · replace E:=bif_t H E;refine Kc 26 H rfl ?_;replace hF:=E;refine Ro 2 ?_;have ⟨z,d,hF⟩:=bsome hF;refine Yl rfl (yld_indexStr rfl underlying9 rfl rfl d) (Ro 1 ?_);obtain rfl:=szs hF;exact Ro 1 (TL.nil fun a h => ⟨h.sub rfl,Ext.refl _⟩)
          · replace E:=bif_f H E;refine Kc 26 H rfl (Ro 4 ?_);obtain rfl:=szs E;exact Ro 1 (TL.nil fun a h => ⟨h.sub rfl,Ext.refl _⟩)
        intro R W;obtain ⟨N,m⟩:=Et T W;refine Ro 8 ?_;refine TL.cutD 7 [(0,.string A),(3,.i B),(41,.bool (((!L) && ((!((C && (decide (B > 0)))))))))] (fun w' => Ext R w') ?_ ?_
        · rcases Bool.eq_false_or_eq_true (!L) with I | I
          · refine Kc 34 I rfl (Ro 2 ?_);refine TL.cutD 3 [(0,.string A),(3,.i B),(34,.bool true),(35,.bool C),(36,.bool C),(39,.bool ((C && (decide (B > 0)))))] (fun w' => Ext R w') ?_ ?_
            · rcases Bool.eq_false_or_eq_true C with D | D
              · exact Kc 36 D rfl (Ro 3 (Kc 39 (ant (b:=decide (B > 0)) D) rfl (Kc 36 (Eq.symm D) rfl (TL.nil fun a h => ⟨h.sub rfl,Ext.refl _⟩))))
              · exact Kc 36 D rfl (Ro 3 (Kc 39 (anf (b:=decide (B > 0)) D) rfl (Kc 36 (Eq.symm D) rfl (TL.nil fun a h => ⟨h.sub rfl,Ext.refl _⟩))))
            intro t P;obtain ⟨k,o⟩:=Et N P;exact Ro 2 (Kc 41 (ant (b:=(!((C && (decide (B > 0)))))) I) rfl (TL.nil fun a h => ⟨h.sub rfl,P⟩))
          · exact Kc 34 I rfl (Ro 7 (Kc 41 (anf (b:=(!((C && (decide (B > 0)))))) I) rfl (TL.nil fun a h => ⟨h.sub rfl,Ext.refl _⟩)))
        intro v X;obtain ⟨O,p⟩:=Et N X;refine Ro 2 (Wc rfl hF ?_ ?_)
        · intro hF;refine Rc 11 ?_;obtain rfl:=szs hF;exact Ne rfl rfl ⟨_,rfl,rfl,O⟩
        · intro hF;refine Rc 9 ?_;intro a hK;exact ⟨K,Nat.le.refl,(wrap .i64 (B + 1)),hK.sub rfl,O,(by omega),hF⟩
      · intro hF;refine Rc 8 (Yl rfl (yld_lens rfl underlying9 rfl) (Ro 2 ?_));refine TL.cutD 4 [(49,.bool (((decide ((A.size:Int) ≥ 1)) && (decide ((A.size:Int) ≤ 8)))))] (fun w' => Ext Q w') ?_ ?_
        · rcases Bool.eq_false_or_eq_true (decide ((A.size:Int) ≥ 1)) with J | J
          · exact Kc 45 J rfl (Ro 1 (Yl rfl (yld_lens rfl underlying9 rfl) (Ro 2 (Kc 49 (ant (b:=decide ((A.size:Int) ≤ 8)) J) rfl (TL.nil fun a h => ⟨h.sub rfl,Ext.refl _⟩)))))
          · exact Kc 45 J rfl (Ro 4 (Kc 49 (anf (b:=decide ((A.size:Int) ≤ 8)) J) rfl (TL.nil fun a h => ⟨h.sub rfl,Ext.refl _⟩)))
        intro x Y;obtain ⟨U,q⟩:=Et M Y;refine Ro 4 ?_;obtain rfl:=szs hF;exact Ne rfl rfl ⟨_,rfl,rfl,U⟩
def F_04 (n:Nat) (a0:S_Clock):Option Bool:=((F_5 n a0.Name).bind fun r8=>((bif (r8 && (decide (a0.Place ≥ 0))) then ((F_0 n a0.EarlyLatency 0 100000).bind fun r19=>(some r19)) else (some false)).bind fun c19=>((bif c19 then ((F_0 n a0.LateLatency a0.EarlyLatency 100000).bind fun r32=>(some r32)) else (some false)).bind fun c32=>((bif c32 then ((F_0 n a0.Uncertainty 0 100000).bind fun r45=>(some r45)) else (some false)).bind fun c45=>(some c45)))))
theorem W_04 {A:S_Clock} {r:Bool} (hF:F_04 n A = some r) :
    Calls prog 36 [.agg #[.string A.Name,.i A.Place,.i A.Period,.i A.RiseAt,.i A.FallAt,.i A.Source,.i A.Divide,.bool A.Invert,.i A.EarlyLatency,.i A.LateLatency,.i A.Uncertainty]].toArray w (Ret fun u N => u = .bool r∧Ext w N):=by
  refine calls_ofD func36 rfl ntmps36 ?_;have Z:Ext w w:=Ext.refl w;unfold F_04 at hF;refine Rc 2 (Ef rfl (eff_box rfl rfl) ?_);rintro _ N ⟨J,rfl,x,y,f,B⟩;have B:Box N J [.string A.Name,.i A.Place,.i A.Period,.i A.RiseAt,.i A.FallAt,.i A.Source,.i A.Divide,.bool A.Invert,.i A.EarlyLatency,.i A.LateLatency,.i A.Uncertainty] 39:=B;obtain ⟨e,H0⟩:=Et Z f;refine Ro 5 (Yl rfl (yfa rfl fo_39_0) (Yl rfl (ylb rfl ag_9 B rfl) ?_));have ⟨M,k,hF⟩:=bsome hF;refine Ef rfl (eca rfl gf_45 (W_5 k :)) ?_;rintro _ m ⟨rfl,T⟩;obtain ⟨c,z⟩:=Et e T;have B:=B.ext T;refine Ro 1 ?_;refine TL.cutD 4 [(1,.pointer (some ⟨J,0,none⟩)),(10,.bool ((M && (decide (A.Place ≥ 0)))))] (fun w' => Ext m w') ?_ ?_
  · rcases Bool.eq_false_or_eq_true M with F | F
    · exact Kc 6 F rfl (Yl rfl (yfa rfl fo_39_1) (Yl rfl (ylb rfl ag_2 B rfl) (Ro 2 (Kc 10 (ant (b:=decide (A.Place ≥ 0)) F) rfl (TL.nil fun a h => ⟨h.sub rfl,Ext.refl _⟩)))))
    · exact Kc 6 F rfl (Ro 4 (Kc 10 (anf (b:=decide (A.Place ≥ 0)) F) rfl (TL.nil fun a h => ⟨h.sub rfl,Ext.refl _⟩)))
  intro o U;obtain ⟨Q,A0⟩:=Et c U;have B:=B.ext U;refine Ro 1 ?_;have ⟨O,C,hF⟩:=bsome hF;refine TL.cutD 4 [(1,.pointer (some ⟨J,0,none⟩)),(15,.bool O)] (fun w' => Ext o w') ?_ ?_
  · rcases Bool.eq_false_or_eq_true ((M && (decide (A.Place ≥ 0)))) with G | G
    · replace C:=bif_t G C;refine Kc 11 G rfl ?_;replace hF:=C;refine Yl rfl (yfa rfl fo_39_8) (Yl rfl (ylb rfl ag_2 B rfl) ?_);have ⟨I0,g,hF⟩:=bsome hF;refine Ef rfl (eca rfl gf_25 (W_0 g :)) ?_;rintro _ L0 ⟨rfl,K⟩;obtain ⟨s,B0⟩:=Et Q K;have B:=B.ext K;obtain rfl:=szs hF;exact Ro 1 (TL.nil fun a h => ⟨h.sub rfl,K⟩)
    · replace C:=bif_f G C;refine Kc 11 G rfl (Ro 3 ?_);obtain rfl:=szs C;exact Ro 1 (TL.nil fun a h => ⟨h.sub rfl,Ext.refl _⟩)
  intro p V;obtain ⟨R,C0⟩:=Et Q V;have B:=B.ext V;refine Ro 1 ?_;have ⟨P,D,hF⟩:=bsome hF;refine TL.cutD 6 [(1,.pointer (some ⟨J,0,none⟩)),(22,.bool P)] (fun w' => Ext p w') ?_ ?_
  · rcases Bool.eq_false_or_eq_true O with H | H
    · replace D:=bif_t H D;refine Kc 16 H rfl ?_;replace hF:=D;refine Yl rfl (yfa rfl fo_39_9) (Yl rfl (ylb rfl ag_2 B rfl) (Yl rfl (yfa rfl fo_39_8) (Yl rfl (ylb rfl ag_2 B rfl) ?_)));have ⟨J0,i,hF⟩:=bsome hF;refine Ef rfl (eca rfl gf_25 (W_0 i :)) ?_;rintro _ M0 ⟨rfl,L⟩;obtain ⟨t,D0⟩:=Et R L;have B:=B.ext L;obtain rfl:=szs hF;exact Ro 1 (TL.nil fun a h => ⟨h.sub rfl,L⟩)
    · replace D:=bif_f H D;refine Kc 16 H rfl (Ro 5 ?_);obtain rfl:=szs D;exact Ro 1 (TL.nil fun a h => ⟨h.sub rfl,Ext.refl _⟩)
  intro q W;obtain ⟨S,E0⟩:=Et R W;have B:=B.ext W;refine Ro 1 ?_;have ⟨Y,E,hF⟩:=bsome hF;refine TL.cutD 4 [(27,.bool Y)] (fun w' => Ext q w') ?_ ?_
  · rcases Bool.eq_false_or_eq_true P with I | I
    · replace E:=bif_t I E;refine Kc 23 I rfl ?_;replace hF:=E;refine Yl rfl (yfa rfl fo_39_10) (Yl rfl (ylb rfl ag_2 B rfl) ?_);have ⟨K0,j,hF⟩:=bsome hF;refine Ef rfl (eca rfl gf_25 (W_0 j :)) ?_;rintro _ N0 ⟨rfl,X⟩;obtain ⟨v,F0⟩:=Et S X;obtain rfl:=szs hF;exact Ro 1 (TL.nil fun a h => ⟨h.sub rfl,X⟩)
    · replace E:=bif_f I E;refine Kc 23 I rfl (Ro 3 ?_);obtain rfl:=szs E;exact Ro 1 (TL.nil fun a h => ⟨h.sub rfl,Ext.refl _⟩)
  intro O0 l;obtain ⟨d,G0⟩:=Et S l;refine Ro 4 ?_;obtain rfl:=szs hF;exact Ne rfl rfl ⟨_,rfl,rfl,d⟩
def F_x (n:Nat) (a0:S_Clock):Option Bool:=((F_0 n a0.Period 2 100000).bind fun r8=>((bif r8 then ((F_0 n a0.RiseAt 0 (wrap .i64 (a0.Period - 1))).bind fun r14=>(some r14)) else (some false)).bind fun c14=>((bif c14 then ((F_0 n a0.FallAt 0 (wrap .i64 (a0.Period - 1))).bind fun r27=>(some r27)) else (some false)).bind fun c27=>(some ((((((c27 && ((a0.RiseAt != a0.FallAt)))) && ((a0.Divide == 1)))) && (!a0.Invert)))))))
theorem W_x {A:S_Clock} {r:Bool} (hF:F_x n A = some r) :
    Calls prog 37 [.agg #[.string A.Name,.i A.Place,.i A.Period,.i A.RiseAt,.i A.FallAt,.i A.Source,.i A.Divide,.bool A.Invert,.i A.EarlyLatency,.i A.LateLatency,.i A.Uncertainty]].toArray w (Ret fun u N => u = .bool r∧Ext w N):=by
  refine calls_ofD func37 rfl ntmps37 ?_;have W:Ext w w:=Ext.refl w;unfold F_x at hF;refine Rc 2 (Ef rfl (eff_box rfl rfl) ?_);rintro _ N ⟨F,rfl,v,x,e,B⟩;have B:Box N F [.string A.Name,.i A.Place,.i A.Period,.i A.RiseAt,.i A.FallAt,.i A.Source,.i A.Divide,.bool A.Invert,.i A.EarlyLatency,.i A.LateLatency,.i A.Uncertainty] 39:=B;obtain ⟨d,G0⟩:=Et W e;refine Ro 5 (Yl rfl (yfa rfl fo_39_2) (Yl rfl (ylb rfl ag_2 B rfl) ?_));have ⟨k,i,hF⟩:=bsome hF;refine Ef rfl (eca rfl gf_25 (W_0 i :)) ?_;rintro _ l ⟨rfl,R⟩;obtain ⟨P,y⟩:=Et d R;have B:=B.ext R;refine Ro 1 ?_;have ⟨O,D,hF⟩:=bsome hF;refine TL.cutD 7 [(1,.pointer (some ⟨F,0,none⟩)),(13,.bool O)] (fun w' => Ext l w') ?_ ?_
  · rcases Bool.eq_false_or_eq_true k with G | G
    · replace D:=bif_t G D;refine Kc 6 G rfl ?_;replace hF:=D;refine Yl rfl (yfa rfl fo_39_3) (Yl rfl (ylb rfl ag_2 B rfl) (Yl rfl (yfa rfl fo_39_2) (Yl rfl (ylb rfl ag_2 B rfl) (Ro 1 ?_))));have ⟨H0,f,hF⟩:=bsome hF;refine Ef rfl (eca rfl gf_25 (W_0 f :)) ?_;rintro _ J0 ⟨rfl,L⟩;obtain ⟨s,z⟩:=Et P L;have B:=B.ext L;obtain rfl:=szs hF;exact Ro 1 (TL.nil fun a h => ⟨h.sub rfl,L⟩)
    · replace D:=bif_f G D;refine Kc 6 G rfl (Ro 6 ?_);obtain rfl:=szs D;exact Ro 1 (TL.nil fun a h => ⟨h.sub rfl,Ext.refl _⟩)
  intro m S;obtain ⟨Q,A0⟩:=Et P S;have B:=B.ext S;refine Ro 1 ?_;have ⟨C,E,hF⟩:=bsome hF;refine TL.cutD 7 [(1,.pointer (some ⟨F,0,none⟩)),(21,.bool C)] (fun w' => Ext m w') ?_ ?_
  · rcases Bool.eq_false_or_eq_true O with H | H
    · replace E:=bif_t H E;refine Kc 14 H rfl ?_;replace hF:=E;refine Yl rfl (yfa rfl fo_39_4) (Yl rfl (ylb rfl ag_2 B rfl) (Yl rfl (yfa rfl fo_39_2) (Yl rfl (ylb rfl ag_2 B rfl) (Ro 1 ?_))));have ⟨I0,g,hF⟩:=bsome hF;refine Ef rfl (eca rfl gf_25 (W_0 g :)) ?_;rintro _ K0 ⟨rfl,M⟩;obtain ⟨t,B0⟩:=Et Q M;have B:=B.ext M;obtain rfl:=szs hF;exact Ro 1 (TL.nil fun a h => ⟨h.sub rfl,M⟩)
    · replace E:=bif_f H E;refine Kc 14 H rfl (Ro 6 ?_);obtain rfl:=szs E;exact Ro 1 (TL.nil fun a h => ⟨h.sub rfl,Ext.refl _⟩)
  intro o T;obtain ⟨X,C0⟩:=Et Q T;have B:=B.ext T;refine Ro 1 ?_;refine TL.cutD 6 [(1,.pointer (some ⟨F,0,none⟩)),(28,.bool ((C && ((A.RiseAt != A.FallAt)))))] (fun w' => Ext o w') ?_ ?_
  · rcases Bool.eq_false_or_eq_true C with I | I
    · exact Kc 22 I rfl (Yl rfl (yfa rfl fo_39_3) (Yl rfl (ylb rfl ag_2 B rfl) (Yl rfl (yfa rfl fo_39_4) (Yl rfl (ylb rfl ag_2 B rfl) (Ro 2 (Kc 28 (ant (b:=(A.RiseAt != A.FallAt)) I) rfl (TL.nil fun a h => ⟨h.sub rfl,Ext.refl _⟩)))))))
    · exact Kc 22 I rfl (Ro 6 (Kc 28 (anf (b:=(A.RiseAt != A.FallAt)) I) rfl (TL.nil fun a h => ⟨h.sub rfl,Ext.refl _⟩)))
  intro p U;obtain ⟨Y,D0⟩:=Et X U;have B:=B.ext U;refine Ro 1 ?_;refine TL.cutD 4 [(1,.pointer (some ⟨F,0,none⟩)),(33,.bool ((((C && ((A.RiseAt != A.FallAt)))) && ((A.Divide == 1)))))] (fun w' => Ext p w') ?_ ?_
  · rcases Bool.eq_false_or_eq_true ((C && ((A.RiseAt != A.FallAt)))) with J | J
    · exact Kc 29 J rfl (Yl rfl (yfa rfl fo_39_6) (Yl rfl (ylb rfl ag_2 B rfl) (Ro 2 (Kc 33 (ant (b:=(A.Divide == 1)) J) rfl (TL.nil fun a h => ⟨h.sub rfl,Ext.refl _⟩)))))
    · exact Kc 29 J rfl (Ro 4 (Kc 33 (anf (b:=(A.Divide == 1)) J) rfl (TL.nil fun a h => ⟨h.sub rfl,Ext.refl _⟩)))
  intro q V;obtain ⟨Z,E0⟩:=Et Y V;have B:=B.ext V;refine Ro 1 ?_;refine TL.cutD 4 [(38,.bool ((((((C && ((A.RiseAt != A.FallAt)))) && ((A.Divide == 1)))) && (!A.Invert))))] (fun w' => Ext q w') ?_ ?_
  · rcases Bool.eq_false_or_eq_true ((((C && ((A.RiseAt != A.FallAt)))) && ((A.Divide == 1)))) with K | K
    · exact Kc 34 K rfl (Yl rfl (yfa rfl fo_39_7) (Yl rfl (ylb rfl ag_4 B rfl) (Ro 2 (Kc 38 (ant (b:=(!A.Invert)) K) rfl (TL.nil fun a h => ⟨h.sub rfl,Ext.refl _⟩)))))
    · exact Kc 34 K rfl (Ro 4 (Kc 38 (anf (b:=(!A.Invert)) K) rfl (TL.nil fun a h => ⟨h.sub rfl,Ext.refl _⟩)))
  intro L0 j;obtain ⟨c,F0⟩:=Et Z j;refine Ro 4 ?_;obtain rfl:=szs hF;exact Ne rfl rfl ⟨_,rfl,rfl,c⟩
def F_2_L2 (a0:List S_Clock) (i5:Int) (x11:S_Clock) (k2:Int→Option Bool):Nat→Int→Option Bool
  | 0, _=>none
  | m + 1, i40=>(bif decide (i40 < i5) then ((getI a0 i40).bind fun x42=>(bif (x42.Name.toList == x11.Name.toList) then (some false) else (F_2_L2 a0 i5 x11 k2 m (wrap .i64 (i40 + 1))))) else (k2 i40))
def F_2_L1 (n:Nat) (a0:List S_Clock) (k0:Int→Option Bool):Nat→Int→Option Bool
  | 0, _=>none
  | m + 1, i5=>(bif ((decide (i5 < (a0.length:Int))) && (decide ((a0.length:Int) ≤ 6))) then ((getI a0 i5).bind fun x11=>((F_04 n x11).bind fun r32=>(bif (!r32) then (some false) else (F_2_L2 a0 i5 x11 (fun i40=>(bif (x11.Source == (-1)) then ((F_x n x11).bind fun r42=>(bif (!r42) then (some false) else (F_2_L1 n a0 k0 m (wrap .i64 (i5 + 1))))) else ((F_0 n x11.Source 0 (wrap .i64 (i5 - 1))).bind fun r48=>((bif (!r48) then (some true) else ((F_0 n x11.Divide 1 8).bind fun r54=>(some (!r54)))).bind fun c54=>((bif (((((c54 || ((x11.Period != 0)))) || ((x11.RiseAt != 0)))) || ((x11.FallAt != 0))) then (some true) else ((F_1 n a0 i5).bind fun r82=>(some (decide (r82.period_ > 100000))))).bind fun c82=>(bif c82 then (some false) else (F_2_L1 n a0 k0 m (wrap .i64 (i5 + 1))))))))) n 0)))) else (k0 i5))
def F_2 (n:Nat) (a0:List S_Clock):Option Bool:=(F_2_L1 n a0 (fun i5=>(some (decide ((a0.length:Int) ≤ 6)))) n 0)
theorem W_2 {D:List S_Clock} {r:Bool} {E:Value} (hF:F_2 n D = some r) (hH:H ≤ w.heap.size) (J:slRep C_Clock w (Iv 0 H) D E) :
    Calls prog 24 [E].toArray w (Ret fun u Z0 => u = .bool r∧Ext w Z0):=by
  refine calls_ofD func24 rfl ntmps24 ?_;have A0:Ext w w:=Ext.refl w;unfold F_2 at hF;refine Rc 12 ?_;refine WC.loopD (fun G a wl => ∃ (C:Int),Kn 80 [(0,E),(3,.i C)] a∧Ext w wl∧w.heap.size ≤ wl.heap.size∧F_2_L1 n D (fun C => (some (decide ((D.length:Int) ≤ 6)))) G C = some r) n ?_ ?_
  · intro a hK;exact ⟨0,hK.sub rfl,A0,Nat.le_refl _,hF⟩
  · rintro G a b0 ⟨C,hK,X,z0,hF⟩;revert a;change WC _ _ _ _ _ _
    cases G with
    | zero => exact nos hF
    | succ G =>
      rw [F_2_L1.eq_2] at hF;refine Rc 5 (Yl rfl (yle rfl underlying27 (J.oh hH X)) (Ro 2 ?_));refine TL.cutD 4 [(0,E),(3,.i C),(14,.bool (((decide (C < (D.length:Int))) && (decide ((D.length:Int) ≤ 6)))))] (fun w' => Ext b0 w') ?_ ?_
      · rcases Bool.eq_false_or_eq_true (decide (C < (D.length:Int))) with P | P
        · exact Kc 10 P rfl (Ro 1 (Yl rfl (yle rfl underlying27 (J.oh hH X)) (Ro 2 (Kc 14 (ant (b:=decide ((D.length:Int) ≤ 6)) P) rfl (TL.nil fun a h => ⟨h.sub rfl,Ext.refl _⟩)))))
        · exact Kc 10 P rfl (Ro 4 (Kc 14 (anf (b:=decide ((D.length:Int) ≤ 6)) P) rfl (TL.nil fun a h => ⟨h.sub rfl,Ext.refl _⟩)))
      intro V1 P0;obtain ⟨V,s0⟩:=Et X P0;refine Ro 2 (Wc rfl hF ?_ ?_)
      · intro hF;refine Rc 8 ?_;have ⟨A,S0,hF⟩:=bsome hF;refine Ye rfl (yix rfl underlying27 cn_39 (J.oh hH V) S0) ?_;rintro _ ⟨i0,G1,M1,rfl,m0,I0,y⟩;obtain rfl:=C_Clock_open I0;refine Yl rfl (yln (us:=[.string A.Name,.i A.Place,.i A.Period,.i A.RiseAt,.i A.FallAt,.i A.Source,.i A.Divide,.bool A.Invert,.i A.EarlyLatency,.i A.LateLatency,.i A.Uncertainty]) rfl ag_39 y cn_39) (Ef rfl (eff_alloc rfl zn_39) ?_);rintro _ Q1 ⟨I,rfl,o0,p0,G0,L⟩;obtain ⟨B0,t0⟩:=Et V G0;refine Ef rfl (est rfl L cn_39 rfl rfl) ?_;rintro _ a0 ⟨O0,x⟩;obtain ⟨C0,u0⟩:=Eu B0 O0 (by omega);have L:Box a0 I [.string A.Name,.i A.Place,.i A.Period,.i A.RiseAt,.i A.FallAt,.i A.Source,.i A.Divide,.bool A.Invert,.i A.EarlyLatency,.i A.LateLatency,.i A.Uncertainty] 39:=x;refine Ro 5 (Yl rfl (ynb rfl ag_39 L cn_39) ?_);have ⟨J1,J0,hF⟩:=bsome hF;refine Ef rfl (eca rfl gf_36 (W_04 J0 :)) ?_;rintro _ c0 ⟨rfl,j⟩;obtain ⟨d,v0⟩:=Et C0 j;have L:=L.ext j;refine Ro 3 (Wc rfl hF ?_ ?_)
        · intro hF;refine Rc 12 ?_;obtain rfl:=szs hF;exact Ne rfl rfl ⟨_,rfl,rfl,d⟩
        · intro hF;refine Rc 9 ?_;refine WC.loopD (fun U a wl => ∃ (T:Int),Kn 80 [(0,E),(3,.i C),(4,.pointer (some ⟨I,0,none⟩)),(5,.i T)] a∧Ext w wl∧c0.heap.size ≤ wl.heap.size∧Box wl I [.string A.Name,.i A.Place,.i A.Period,.i A.RiseAt,.i A.FallAt,.i A.Source,.i A.Divide,.bool A.Invert,.i A.EarlyLatency,.i A.LateLatency,.i A.Uncertainty] 39∧F_2_L2 D C A (fun T => (bif (A.Source == (-1)) then (Option.bind (F_x n A) fun U0 => (bif (!U0) then (some false) else (F_2_L1 n D (fun C => (some (decide ((D.length:Int) ≤ 6)))) G (wrap .i64 (C + 1))))) else (Option.bind (F_0 n A.Source 0 (wrap .i64 (C - 1))) fun V0 => (Option.bind (bif (!V0) then (some true) else (Option.bind (F_0 n A.Divide 1 8) fun W0 => (some (!W0)))) fun s => (Option.bind (bif (((((s || ((A.Period != 0)))) || ((A.RiseAt != 0)))) || ((A.FallAt != 0))) then (some true) else (Option.bind (F_1 n D C) fun Y0 => (some (decide (Y0.period_ > 100000))))) fun t => (bif t then (some false) else (F_2_L1 n D (fun C => (some (decide ((D.length:Int) ≤ 6)))) G (wrap .i64 (C + 1))))))))) U T = some r) n ?_ ?_
          · intro a hK;exact ⟨0,hK.sub rfl,d,Nat.le_refl _,L,hF⟩
          · rintro U a R1 ⟨T,hK,W,w0,B,hF⟩;revert a;change WC _ _ _ _ _ _
            cases U with
            | zero => exact nos hF
            | succ U =>
              rw [F_2_L2.eq_2] at hF;refine Rc 8 (Wc rfl hF ?_ ?_)
              · intro hF;refine Rc 5 (WC.quiet Tryd.hm (by kernel_rfl) (Qr 2 ?_));have ⟨W1,T0,hF⟩:=bsome hF;refine Qe rfl (yix rfl underlying27 cn_39 (J.oh hH W) T0) ?_;rintro _ ⟨j0,H1,N1,rfl,n0,K0,z⟩;obtain rfl:=C_Clock_open K0;refine Qy rfl (yfa rfl fo_39_0) (Qy rfl (ylc 0 rfl ag_9 z rfl rfl) (Qy rfl (yfa rfl fo_39_0) (Qy rfl (ylb rfl ag_9 B rfl) (Qr 1 ?_))));refine QL.done fun S1 k => ?_;obtain ⟨e,x0⟩:=Et W k;have B:=B.ext k;refine Re 1 (Wc rfl hF ?_ ?_)
                · intro hF;refine Rc 16 ?_;obtain rfl:=szs hF;exact Ne rfl rfl ⟨_,rfl,rfl,e⟩
                · intro hF;refine Rc 9 ?_;intro a hK;exact ⟨U,Nat.le.refl,(wrap .i64 (T + 1)),hK.sub rfl,e,(by omega),B,hF⟩
              · intro hF;refine Rc 8 (Yl rfl (yfa rfl fo_39_5) (Yl rfl (ylb rfl ag_2 B rfl) (Ro 3 (Wc rfl hF ?_ ?_))))
                · intro hF;refine Rc 3 (Yl rfl (ynb rfl ag_39 B cn_39) ?_);have ⟨K1,L0,hF⟩:=bsome hF;refine Ef rfl (eca rfl gf_37 (W_x L0 :)) ?_;rintro _ T1 ⟨rfl,l⟩;obtain ⟨f,y0⟩:=Et W l;have B:=B.ext l;refine Ro 3 (Wc rfl hF ?_ ?_)
                  · intro hF;refine Rc 13 ?_;obtain rfl:=szs hF;exact Ne rfl rfl ⟨_,rfl,rfl,f⟩
                  · intro hF;refine Rc 12 ?_;intro a hK;exact ⟨G,Nat.le.refl,(wrap .i64 (C + 1)),hK.sub rfl,f,(by omega),hF⟩
                · intro hF;refine Rc 4 (Yl rfl (yfa rfl fo_39_5) (Yl rfl (ylb rfl ag_2 B rfl) (Ro 2 ?_)));have ⟨X0,M0,hF⟩:=bsome hF;refine Ef rfl (eca rfl gf_25 (W_0 M0 :)) ?_;rintro _ d0 ⟨rfl,m⟩;obtain ⟨g,A1⟩:=Et W m;have B:=B.ext m;refine Ro 2 ?_;have ⟨F,M,hF⟩:=bsome hF;refine TL.cutD 5 [(0,E),(3,.i C),(4,.pointer (some ⟨I,0,none⟩)),(54,.bool F)] (fun w' => Ext d0 w') ?_ ?_
                  · rcases Bool.eq_false_or_eq_true (!X0) with O | O
                    · replace M:=bif_t O M;refine Kc 49 O rfl (Ro 4 ?_);obtain rfl:=szs M;exact Ro 1 (TL.nil fun a h => ⟨h.sub rfl,Ext.refl _⟩)
                    · replace M:=bif_f O M;refine Kc 49 O rfl ?_;replace hF:=M;refine Yl rfl (yfa rfl fo_39_6) (Yl rfl (ylb rfl ag_2 B rfl) ?_);have ⟨L1,N0,hF⟩:=bsome hF;refine Ef rfl (eca rfl gf_25 (W_0 N0 :)) ?_;rintro _ U1 ⟨rfl,Z⟩;obtain ⟨l0,B1⟩:=Et g Z;have B:=B.ext Z;refine Ro 1 ?_;obtain rfl:=szs hF;exact Ro 1 (TL.nil fun a h => ⟨h.sub rfl,Z⟩)
                  intro e0 o;obtain ⟨D0,C1⟩:=Et g o;have B:=B.ext o;refine Ro 1 ?_;refine TL.cutD 4 [(0,E),(3,.i C),(4,.pointer (some ⟨I,0,none⟩)),(59,.bool ((F || ((A.Period != 0)))))] (fun w' => Ext e0 w') ?_ ?_
                  · rcases Bool.eq_false_or_eq_true F with Q | Q
                    · exact Kc 55 Q rfl (Ro 4 (Kc 59 (ort (b:=(A.Period != 0)) Q) rfl (TL.nil fun a h => ⟨h.sub rfl,Ext.refl _⟩)))
                    · exact Kc 55 Q rfl (Yl rfl (yfa rfl fo_39_2) (Yl rfl (ylb rfl ag_2 B rfl) (Ro 2 (Kc 59 (orf (b:=(A.Period != 0)) Q) rfl (TL.nil fun a h => ⟨h.sub rfl,Ext.refl _⟩)))))
                  intro f0 p;obtain ⟨E0,D1⟩:=Et D0 p;have B:=B.ext p;refine Ro 1 ?_;refine TL.cutD 4 [(0,E),(3,.i C),(4,.pointer (some ⟨I,0,none⟩)),(64,.bool ((((F || ((A.Period != 0)))) || ((A.RiseAt != 0)))))] (fun w' => Ext f0 w') ?_ ?_
                  · rcases Bool.eq_false_or_eq_true ((F || ((A.Period != 0)))) with R | R
                    · exact Kc 60 R rfl (Ro 4 (Kc 64 (ort (b:=(A.RiseAt != 0)) R) rfl (TL.nil fun a h => ⟨h.sub rfl,Ext.refl _⟩)))
                    · exact Kc 60 R rfl (Yl rfl (yfa rfl fo_39_3) (Yl rfl (ylb rfl ag_2 B rfl) (Ro 2 (Kc 64 (orf (b:=(A.RiseAt != 0)) R) rfl (TL.nil fun a h => ⟨h.sub rfl,Ext.refl _⟩)))))
                  intro g0 q;obtain ⟨F0,E1⟩:=Et E0 q;have B:=B.ext q;refine Ro 1 ?_;refine TL.cutD 4 [(0,E),(3,.i C),(69,.bool ((((((F || ((A.Period != 0)))) || ((A.RiseAt != 0)))) || ((A.FallAt != 0)))))] (fun w' => Ext g0 w') ?_ ?_
                  · rcases Bool.eq_false_or_eq_true ((((F || ((A.Period != 0)))) || ((A.RiseAt != 0)))) with S | S
                    · exact Kc 65 S rfl (Ro 4 (Kc 69 (ort (b:=(A.FallAt != 0)) S) rfl (TL.nil fun a h => ⟨h.sub rfl,Ext.refl _⟩)))
                    · exact Kc 65 S rfl (Yl rfl (yfa rfl fo_39_4) (Yl rfl (ylb rfl ag_2 B rfl) (Ro 2 (Kc 69 (orf (b:=(A.FallAt != 0)) S) rfl (TL.nil fun a h => ⟨h.sub rfl,Ext.refl _⟩)))))
                  intro h0 R0;obtain ⟨Y,F1⟩:=Et F0 R0;refine Ro 1 ?_;have ⟨v,K,hF⟩:=bsome hF;refine TL.cutD 6 [(0,E),(3,.i C),(76,.bool v)] (fun w' => Ext h0 w') ?_ ?_
                  · rcases Bool.eq_false_or_eq_true ((((((F || ((A.Period != 0)))) || ((A.RiseAt != 0)))) || ((A.FallAt != 0)))) with N | N
                    · replace K:=bif_t N K;refine Kc 70 N rfl (Ro 5 ?_);obtain rfl:=szs K;exact Ro 1 (TL.nil fun a h => ⟨h.sub rfl,Ext.refl _⟩)
                    · replace K:=bif_f N K;refine Kc 70 N rfl ?_;replace hF:=K;refine Ro 2 ?_;have ⟨I1,H0,hF⟩:=bsome hF;refine Ef rfl (eca rfl gf_28 (W_1 H0 (by omega) (J.oh hH Y) :)) ?_;rintro _ O1 ⟨rfl,i⟩;obtain ⟨k0,q0⟩:=Et Y i;refine Yl rfl (yld_field1 rfl ft_59_0 ag_2 rfl rfl) (Ro 1 ?_);obtain rfl:=szs hF;exact Ro 1 (TL.nil fun a h => ⟨h.sub rfl,i⟩)
                  intro P1 Q0;obtain ⟨c,r0⟩:=Et Y Q0;refine Ro 2 (Wc rfl hF ?_ ?_)
                  · intro hF;refine Rc 11 ?_;obtain rfl:=szs hF;exact Ne rfl rfl ⟨_,rfl,rfl,c⟩
                  · intro hF;refine Rc 9 ?_;intro a hK;exact ⟨G,Nat.le.refl,(wrap .i64 (C + 1)),hK.sub rfl,c,(by omega),hF⟩
      · intro hF;refine Rc 8 (Yl rfl (yle rfl underlying27 (J.oh hH V)) (Ro 5 ?_));obtain rfl:=szs hF;exact Ne rfl rfl ⟨_,rfl,rfl,V⟩
def F_d_L1 (a0:List S_Clock) (k0:Int→Option Int):Nat→Int→Option Int
  | 0, _=>none
  | m + 1, i5=>((getI a0 i5).bind fun x6=>(bif decide (x6.Source ≥ 0) then ((getI a0 i5).bind fun x15=>(F_d_L1 a0 k0 m x15.Source)) else (k0 i5)))
def F_d (n:Nat) (a0:List S_Clock) (a1:Int):Option Int:=(F_d_L1 a0 (fun i5=>(some i5)) n a1)
theorem W_d {D:List S_Clock} {E:Int} {r:Int} {F:Value} (hF:F_d n D E = some r) (hH:H ≤ w.heap.size) (G:slRep C_Clock w (Iv 0 H) D F) :
    Calls prog 26 [F,.i E].toArray w (Ret fun u P => u = .i r∧Ext w P):=by
  refine calls_ofD func26 rfl ntmps26 ?_;have K:Ext w w:=Ext.refl w;unfold F_d at hF;refine Rc 7 ?_;refine WC.loopD (fun B a wl => ∃ (A:Int),Kn 17 [(0,F),(1,.i A)] a∧Ext w wl∧w.heap.size ≤ wl.heap.size∧F_d_L1 D (fun A => (some A)) B A = some r) n ?_ ?_
  · intro a hK;exact ⟨E,hK.sub rfl,K,Nat.le_refl _,hF⟩
  · rintro B a b ⟨A,hK,C,V,hF⟩;revert a;change WC _ _ _ _ _ _
    cases B with
    | zero => exact nos hF
    | succ B =>
      rw [F_d_L1.eq_2] at hF;refine Rc 5 ?_;have ⟨c,O,hF⟩:=bsome hF;refine Ye rfl (yix rfl underlying27 cn_39 (G.oh hH C) O) ?_;rintro _ ⟨R,W,Y,rfl,T,L,I⟩;obtain rfl:=C_Clock_open L;refine Yl rfl (yfa rfl fo_39_5) (Yl rfl (ylc 5 rfl ag_2 I rfl rfl) (Ro 3 (Wc rfl hF ?_ ?_)))
      · intro hF;refine Rc 6 ?_;have ⟨Q,N,hF⟩:=bsome hF;refine Ye rfl (yix rfl underlying27 cn_39 (G.oh hH C) N) ?_;rintro _ ⟨S,X,Z,rfl,U,M,J⟩;obtain rfl:=C_Clock_open M;refine Yl rfl (yfa rfl fo_39_5) (Yl rfl (ylc 5 rfl ag_2 J rfl rfl) (Ro 4 ?_));intro a hK;exact ⟨B,Nat.le.refl,Q.Source,hK.sub rfl,C,(by omega),hF⟩
      · intro hF;refine Rc 12 ?_;obtain rfl:=szs hF;exact Ne rfl rfl ⟨_,rfl,rfl,C⟩
def F_q_L1 (k0:Int→Int→Option Int):Nat→Int→Int→Option Int
  | 0, _, _=>none
  | m + 1, i3, i4=>(bif decide (i4 > 0) then (bif (i4 == 0) then none else (F_q_L1 k0 m i4 (Int.tmod i3 i4))) else (k0 i3 i4))
def F_q (n:Nat) (a0:Int) (a1:Int):Option Int:=(F_q_L1 (fun i3 i4=>(some i3)) n a0 a1)
theorem W_q {D:Int} {E:Int} {r:Int} (hF:F_q n D E = some r) :
    Calls prog 38 [.i D,.i E].toArray w (Ret fun u I => u = .i r∧Ext w I):=by
  refine calls_ofD func38 rfl ntmps38 ?_;have G:Ext w w:=Ext.refl w;unfold F_q at hF;refine Rc 7 ?_;refine WC.loopD (fun C a wl => ∃ (A:Int) (B:Int),Kn 14 [(0,.i A),(1,.i B)] a∧Ext w wl∧w.heap.size ≤ wl.heap.size∧F_q_L1 (fun A B => (some A)) C A B = some r) n ?_ ?_
  · intro a hK;exact ⟨D,E,hK.sub rfl,G,Nat.le_refl _,hF⟩
  · rintro C a K ⟨A,B,hK,F,J,hF⟩;revert a;change WC _ _ _ _ _ _
    cases C with
    | zero => exact nos hF
    | succ C =>
      rw [F_q_L1.eq_2] at hF;refine Rc 7 (Wc rfl hF ?_ ?_)
      · intro hF;refine Rc 7 ?_;obtain ⟨H,hF⟩:=nzero hF;refine Yl rfl (yld_rem rfl rfl rfl H) (Ro 15 ?_);intro a hK;exact ⟨C,Nat.le.refl,B,(Int.tmod A B),hK.sub rfl,F,(by omega),hF⟩
      · intro hF;refine Rc 12 ?_;obtain rfl:=szs hF;exact Ne rfl rfl ⟨_,rfl,rfl,F⟩
def F_r (n:Nat) (a0:List S_Clock) (a1:Int) (a2:Int):Option Int:=((F_1 n a0 a1).bind fun r3=>((F_1 n a0 a2).bind fun r9=>((F_q n r3.period_ r9.period_).bind fun r15=>(bif (r15 == 0) then none else (some (wrap .i64 ((wrap .i64 (Int.tdiv r3.period_ r15)) * r9.period_)))))))
theorem W_r {A:List S_Clock} {B:Int} {C:Int} {r:Int} {G:Value} (hF:F_r n A B C = some r) (hH:H ≤ w.heap.size) (D:slRep C_Clock w (Iv 0 H) A G) :
    Calls prog 27 [G,.i B,.i C].toArray w (Ret fun u R => u = .i r∧Ext w R):=by
  refine calls_ofD func27 rfl ntmps27 ?_;have E:Ext w w:=Ext.refl w;unfold F_r at hF;refine Rc 9 ?_;have ⟨W,N,hF⟩:=bsome hF;refine Ef rfl (eca rfl gf_28 (W_1 N (by omega) (D.oh hH E) :)) ?_;rintro _ a ⟨rfl,Q⟩;obtain ⟨F,U⟩:=Et E Q;refine Yl rfl (yld_field1 rfl ft_59_0 ag_2 rfl rfl) (Ro 2 ?_);have ⟨X,L,hF⟩:=bsome hF;refine Ef rfl (eca rfl gf_28 (W_1 L (by omega) (D.oh hH F) :)) ?_;rintro _ Y ⟨rfl,O⟩;obtain ⟨I,S⟩:=Et F O;refine Yl rfl (yld_field1 rfl ft_59_0 ag_2 rfl rfl) (Ro 9 ?_);have ⟨V,M,hF⟩:=bsome hF;refine Ef rfl (eca rfl gf_38 (W_q M :)) ?_;rintro _ Z ⟨rfl,P⟩;obtain ⟨J,T⟩:=Et I P;obtain ⟨K,hF⟩:=nzero hF;refine Yl rfl (yld_quo rfl rfl rfl K) (Ro 6 ?_);obtain rfl:=szs hF;exact Ne rfl rfl ⟨_,rfl,rfl,J⟩
def F_05 (n:Nat) (a0:List S_Clock) (a1:Int) (a2:Int) (a3:Int) (a4:Int):Option Int:=((F_2 n a0).bind fun r3=>(bif (!r3) then (some 1) else ((F_0 n a1 0 (wrap .i64 (((a0.length:Int)) - 1))).bind fun r9=>((bif (!r9) then (some true) else ((F_0 n a3 0 (wrap .i64 (((a0.length:Int)) - 1))).bind fun r15=>(some (!r15)))).bind fun c15=>(bif c15 then (some 4) else ((F_0 n a2 0 1).bind fun r28=>((bif (!r28) then (some true) else ((F_0 n a4 0 1).bind fun r34=>(some (!r34)))).bind fun c34=>(bif c34 then (some 2) else ((F_d n a0 a1).bind fun r47=>((F_d n a0 a3).bind fun r53=>(bif (r47 != r53) then (some 5) else ((F_r n a0 a1 a3).bind fun r59=>((bif decide (r59 > 100000000) then (some true) else ((F_1 n a0 a1).bind fun r65=>(bif (r65.period_ == 0) then none else (some (decide (wrap .i64 (Int.tdiv r59 r65.period_) > 200)))))).bind fun c65=>(bif c65 then (some 3) else (some 0)))))))))))))))
theorem W_05 {R:List S_Clock} {I:Int} {L:Int} {J:Int} {M:Int} {r:Int} {K:Value} (hF:F_05 n R I L J M = some r) (hH:H ≤ w.heap.size) (A:slRep C_Clock w (Iv 0 H) R K) :
    Calls prog 14 [K,.i I,.i L,.i J,.i M].toArray w (Ret fun u H0 => u = .i r∧Ext w H0):=by
  refine calls_ofD func14 rfl ntmps14 ?_;have S:Ext w w:=Ext.refl w;unfold F_05 at hF;refine Rc 9 ?_;have ⟨a0,l,hF⟩:=bsome hF;refine Ef rfl (eca rfl gf_24 (W_2 l (by omega) (A.oh hH S) :)) ?_;rintro _ k0 ⟨rfl,A0⟩;obtain ⟨Q,Y0⟩:=Et S A0;refine Ro 3 (Wc rfl hF ?_ ?_)
  · intro hF;refine Rc 7 ?_;obtain rfl:=szs hF;exact Ne rfl rfl ⟨_,rfl,rfl,Q⟩
  · intro hF;refine Rc 5 (Yl rfl (yle rfl underlying27 (A.oh hH Q)) (Ro 10 ?_));have ⟨F0,g,hF⟩:=bsome hF;refine Ef rfl (eca rfl gf_25 (W_0 g :)) ?_;rintro _ G0 ⟨rfl,s⟩;obtain ⟨T,N0⟩:=Et Q s;refine Ro 2 ?_;have ⟨c,B,hF⟩:=bsome hF;refine TL.cutD 5 [(0,K),(1,.i I),(2,.i L),(3,.i J),(4,.i M),(29,.bool c)] (fun w' => Ext G0 w') ?_ ?_
    · rcases Bool.eq_false_or_eq_true (!F0) with E | E
      · replace B:=bif_t E B;refine Kc 24 E rfl (Ro 4 ?_);obtain rfl:=szs B;exact Ro 1 (TL.nil fun a h => ⟨h.sub rfl,Ext.refl _⟩)
      · replace B:=bif_f E B;refine Kc 24 E rfl ?_;replace hF:=B;refine Ro 2 ?_;have ⟨Z0,i,hF⟩:=bsome hF;refine Ef rfl (eca rfl gf_25 (W_0 i :)) ?_;rintro _ f0 ⟨rfl,Y⟩;obtain ⟨K0,O0⟩:=Et T Y;refine Ro 1 ?_;obtain rfl:=szs hF;exact Ro 1 (TL.nil fun a h => ⟨h.sub rfl,Y⟩)
    intro g0 t;obtain ⟨U,P0⟩:=Et T t;refine Ro 3 (Wc rfl hF ?_ ?_)
    · intro hF;refine Rc 8 ?_;obtain rfl:=szs hF;exact Ne rfl rfl ⟨_,rfl,rfl,U⟩
    · intro hF;refine Rc 3 ?_;have ⟨D0,j,hF⟩:=bsome hF;refine Ef rfl (eca rfl gf_25 (W_0 j :)) ?_;rintro _ I0 ⟨rfl,v⟩;obtain ⟨V,Q0⟩:=Et U v;refine Ro 2 ?_;have ⟨d,C,hF⟩:=bsome hF;refine TL.cutD 4 [(0,K),(1,.i I),(3,.i J),(38,.bool d)] (fun w' => Ext I0 w') ?_ ?_
      · rcases Bool.eq_false_or_eq_true (!D0) with F | F
        · replace C:=bif_t F C;refine Kc 34 F rfl (Ro 3 ?_);obtain rfl:=szs C;exact Ro 1 (TL.nil fun a h => ⟨h.sub rfl,Ext.refl _⟩)
        · replace C:=bif_f F C;refine Kc 34 F rfl ?_;replace hF:=C;refine Ro 1 ?_;have ⟨b0,k,hF⟩:=bsome hF;refine Ef rfl (eca rfl gf_25 (W_0 k :)) ?_;rintro _ h0 ⟨rfl,Z⟩;obtain ⟨L0,R0⟩:=Et V Z;refine Ro 1 ?_;obtain rfl:=szs hF;exact Ro 1 (TL.nil fun a h => ⟨h.sub rfl,Z⟩)
      intro i0 x;obtain ⟨N,S0⟩:=Et V x;refine Ro 3 (Wc rfl hF ?_ ?_)
      · intro hF;refine Rc 8 ?_;obtain rfl:=szs hF;exact Ne rfl rfl ⟨_,rfl,rfl,N⟩
      · intro hF;refine Rc 4 ?_;have ⟨c0,m,hF⟩:=bsome hF;refine Ef rfl (eca rfl gf_26 (W_d m (by omega) (A.oh hH N) :)) ?_;rintro _ j0 ⟨rfl,y⟩;obtain ⟨W,T0⟩:=Et N y;refine Ro 2 ?_;have ⟨d0,o,hF⟩:=bsome hF;refine Ef rfl (eca rfl gf_26 (W_d o (by omega) (A.oh hH W) :)) ?_;rintro _ l0 ⟨rfl,z⟩;obtain ⟨O,U0⟩:=Et W z;refine Ro 4 (Wc rfl hF ?_ ?_)
        · intro hF;refine Rc 8 ?_;obtain rfl:=szs hF;exact Ne rfl rfl ⟨_,rfl,rfl,O⟩
        · intro hF;refine Rc 8 ?_;have ⟨E0,p,hF⟩:=bsome hF;refine Ef rfl (eca rfl gf_27 (W_r p (by omega) (A.oh hH O) :)) ?_;rintro _ J0 ⟨rfl,B0⟩;obtain ⟨P,V0⟩:=Et O B0;refine Ro 9 ?_;have ⟨e,D,hF⟩:=bsome hF;refine TL.cutD 8 [(61,.bool e)] (fun w' => Ext J0 w') ?_ ?_
          · rcases Bool.eq_false_or_eq_true (decide (E0 > 100000000)) with G | G
            · replace D:=bif_t G D;refine Kc 53 G rfl (Ro 7 ?_);obtain rfl:=szs D;exact Ro 1 (TL.nil fun a h => ⟨h.sub rfl,Ext.refl _⟩)
            · replace D:=bif_f G D;refine Kc 53 G rfl ?_;replace hF:=D;refine Ro 3 ?_;have ⟨e0,q,hF⟩:=bsome hF;refine Ef rfl (eca rfl gf_28 (W_1 q (by omega) (A.oh hH P) :)) ?_;rintro _ m0 ⟨rfl,b⟩;obtain ⟨M0,W0⟩:=Et P b;refine Yl rfl (yld_field1 rfl ft_59_0 ag_2 rfl rfl) ?_;obtain ⟨f,hF⟩:=nzero hF;refine Yl rfl (yld_quo rfl rfl rfl f) (Ro 1 ?_);obtain rfl:=szs hF;exact Ro 1 (TL.nil fun a h => ⟨h.sub rfl,b⟩)
          intro n0 C0;obtain ⟨X,X0⟩:=Et P C0;refine Ro 2 (Wc rfl hF ?_ ?_)
          · intro hF;refine Rc 7 ?_;obtain rfl:=szs hF;exact Ne rfl rfl ⟨_,rfl,rfl,X⟩
          · intro hF;refine Rc 8 ?_;obtain rfl:=szs hF;exact Ne rfl rfl ⟨_,rfl,rfl,X⟩
def F_06 (n:Nat) (a0:S_l14Wave) (a1:Int):Option Int:=(bif (a1 == 0) then (some a0.rise_) else (some a0.fall_))
theorem W_06 {A:S_l14Wave} {D:Int} {r:Int} (hF:F_06 n A D = some r) :
    Calls prog 39 [.agg #[.i A.period_,.i A.rise_,.i A.fall_],.i D].toArray w (Ret fun u C => u = .i r∧Ext w C):=by
  refine calls_ofD func39 rfl ntmps39 ?_;have G:Ext w w:=Ext.refl w;unfold F_06 at hF;refine Rc 2 (Ef rfl (eff_box rfl rfl) ?_);rintro _ C ⟨F,rfl,I,J,H,B⟩;have B:Box C F [.i A.period_,.i A.rise_,.i A.fall_] 59:=B;obtain ⟨E,K⟩:=Et G H;refine Ro 10 (Wc rfl hF ?_ ?_)
  · intro hF;refine Rc 2 (Yl rfl (yfa rfl fo_59_1) (Yl rfl (ylb rfl ag_2 B rfl) (Ro 5 ?_)));obtain rfl:=szs hF;exact Ne rfl rfl ⟨_,rfl,rfl,E⟩
  · intro hF;refine Rc 4 (Yl rfl (yfa rfl fo_59_2) (Yl rfl (ylb rfl ag_2 B rfl) (Ro 4 ?_)));obtain rfl:=szs hF;exact Ne rfl rfl ⟨_,rfl,rfl,E⟩
def F_t (n:Nat) (a0:S_l14Wave) (a1:Int) (a2:Int):Option Int:=((F_06 n a0 a1).bind fun r8=>(bif (a0.period_ == 0) then none else (bif (a0.period_ == 0) then none else (some (wrap .i64 (a2 + (Int.tmod (wrap .i64 ((Int.tmod (wrap .i64 (r8 - a2)) a0.period_) + a0.period_)) a0.period_)))))))
theorem W_t {A:S_l14Wave} {D:Int} {E:Int} {r:Int} (hF:F_t n A D E = some r) :
    Calls prog 29 [.agg #[.i A.period_,.i A.rise_,.i A.fall_],.i D,.i E].toArray w (Ret fun u C => u = .i r∧Ext w C):=by
  refine calls_ofD func29 rfl ntmps29 ?_;have G:Ext w w:=Ext.refl w;unfold F_t at hF;refine Rc 2 (Ef rfl (eff_box rfl rfl) ?_);rintro _ C ⟨F,rfl,O,P,L,B⟩;have B:Box C F [.i A.period_,.i A.rise_,.i A.fall_] 59:=B;obtain ⟨I,R⟩:=Et G L;refine Ro 4 (WC.quiet Tryd.hm (by kernel_rfl) (Qr 1 (Qy rfl (ynb rfl ag_59 B cn_59) (Qr 1 ?_))));have ⟨S,M,hF⟩:=bsome hF;refine Ql rfl (qca rfl gf_39 fun w' hw' => (W_06 M :)) ?_;refine Qr 2 (Qy rfl (yfa rfl fo_59_0) (Qy rfl (ylb rfl ag_2 B rfl) ?_));obtain ⟨J,hF⟩:=nzero hF;refine Qy rfl (yld_rem rfl rfl rfl J) (Qy rfl (yfa rfl fo_59_0) (Qy rfl (ylb rfl ag_2 B rfl) (Qr 1 (Qy rfl (yfa rfl fo_59_0) (Qy rfl (ylb rfl ag_2 B rfl) ?_)))));obtain ⟨K,hF⟩:=nzero hF;refine Qy rfl (yld_rem rfl rfl rfl K) (Qr 2 ?_);refine QL.done fun T N => ?_;obtain ⟨H,Q⟩:=Et I N;refine Re 2 ?_;obtain rfl:=szs hF;exact Ne rfl rfl ⟨_,rfl,rfl,H⟩
def F_n_L1 (n:Nat) (a4:Int) (r16:Int) (r22:S_l14Wave) (r28:S_l14Wave) (k0:(List (List Int))→Int→Option (List (List Int))):Nat→(List (List Int))→Int→Option (List (List Int))
  | 0, _, _=>none
  | m + 1, l66, i71=>(bif decide (i71 < r16) then ((F_t n r28 a4 (wrap .i64 (i71 + 1))).bind fun r76=>((appN l66 ([[i71, r76]]) 24).bind fun z108=>(F_n_L1 n a4 r16 r22 r28 k0 m z108 (wrap .i64 (i71 + r22.period_))))) else (k0 l66 i71))
def F_n (n:Nat) (a0:List S_Clock) (a1:Int) (a2:Int) (a3:Int) (a4:Int):Option (List (List Int)):=((F_r n a0 a1 a3).bind fun r16=>((F_1 n a0 a1).bind fun r22=>((F_1 n a0 a3).bind fun r28=>((F_t n r22 a2 0).bind fun r58=>(F_n_L1 n a4 r16 r22 r28 (fun l66 i71=>(some l66)) n (([]:List (List Int))) r58)))))
theorem W_n {o:List S_Clock} {p:Int} {s:Int} {t:Int} {W:Int} {r:List (List Int)} {M0:Value} (hF:F_n n o p s t W = some r) (hH:H ≤ w.heap.size) (d:slRep C_Clock w (Iv 0 H) o M0) :
    Calls prog 15 [M0,.i p,.i s,.i t,.i W].toArray w (Ret fun u m => ∃ L0 u0_0,u = L0∧own2 (cInt .i64) m (w.heap.size) (m.heap.size) 50 2 r L0 u0_0∧Ext w m):=by
  refine calls_ofD func15 rfl ntmps15 ?_;have W0:Ext w w:=Ext.refl w;unfold F_n at hF;refine Rc 7 ?_;refine Ef rfl (eff_buildSlice (c:=cRaw) (xs:=([]:List Value)) (S:=(Iv 0 0)) (uss:=[]) (out:=[]) rfl underlying24 in_50 rfl rfl (fillL_all [] rfl rfl rfl) rfl rfl rfl rfl (one_rep (uss:=[]) (show reps _ _ _ _ _ from trivial) rfl) (fun k h => by have:=h.2;omega) rfl) ?_;rintro N0 v0 ⟨X,E0,C1,V1,r0,o0⟩;obtain ⟨v,L1⟩:=Et W0 r0;have Q:=bd_of E0;clear E0;have A:own2 (cInt .i64) v0 (X) (X) 50 2 (([]:List (List Int))) N0 []:=(own2.lit0 o0);refine Ro 8 ?_;have ⟨K0,j0,hF⟩:=bsome hF;refine Ef rfl (eca rfl gf_27 (W_r j0 (by omega) (d.oh hH v) :)) ?_;rintro _ a1 ⟨rfl,H0⟩;obtain ⟨x,M1⟩:=Et v H0;have A:=A.ext H0 (by omega);refine Ro 7 ?_;have ⟨G,k0,hF⟩:=bsome hF;refine Ef rfl (eca rfl gf_28 (W_1 k0 (by omega) (d.oh hH x) :)) ?_;rintro _ b1 ⟨rfl,I0⟩;obtain ⟨y,N1⟩:=Et x I0;have A:=A.ext I0 (by omega);refine Ro 2 ?_;have ⟨J,l0,hF⟩:=bsome hF;refine Ef rfl (eca rfl gf_28 (W_1 l0 (by omega) (d.oh hH y) :)) ?_;rintro _ c1 ⟨rfl,J0⟩;obtain ⟨Z0,O1⟩:=Et y J0;have A:=A.ext J0 (by omega);refine Ef rfl (eff_alloc rfl zn_59) ?_;rintro _ d1 ⟨O,rfl,E1,F1,A0,C⟩;obtain ⟨a0,P1⟩:=Et Z0 A0;have A:=A.ext A0 (by omega);refine Ef rfl (eff_alloc rfl zn_59) ?_;rintro _ e1 ⟨P,rfl,G1,H1,f,I⟩;obtain ⟨b0,Q1⟩:=Et a0 f;have C:=C.ext f;have A:=A.ext f (by omega);refine Ef rfl (est rfl C cn_59 rfl rfl) ?_;rintro _ w0 ⟨i,R0⟩;obtain ⟨c0,R1⟩:=Eu b0 i (by omega);have I:=I.upd i (by omega);have A:=A.upd i (Nb.of Q (by omega)) (by omega);have C:Box w0 O [.i G.period_,.i G.rise_,.i G.fall_] 59:=R0;refine Ef rfl (est rfl I cn_59 rfl rfl) ?_;rintro _ x0 ⟨j,S0⟩;obtain ⟨d0,S1⟩:=Eu c0 j (by omega);have C:=C.upd j (by omega);have A:=A.upd j (Nb.of Q (by omega)) (by omega);have I:Box x0 P [.i J.period_,.i J.rise_,.i J.fall_] 59:=S0;refine Ro 5 (Yl rfl (ynb rfl ag_59 C cn_59) (Ro 1 ?_));have ⟨s0,m0,hF⟩:=bsome hF;refine Ef rfl (eca rfl gf_29 (W_t m0 :)) ?_;rintro _ y0 ⟨rfl,Y⟩;obtain ⟨e0,T1⟩:=Et d0 Y;have C:=C.ext Y;have I:=I.ext Y;have A:=A.ext Y (by omega);refine Ro 4 ?_;refine WC.loopD (fun V a wl => ∃ (U:List (List Int)) (N:Value) (l:List Value) (B:Int),Kn 48 [(4,.i W),(11,N),(12,.i K0),(13,.pointer (some ⟨O,0,none⟩)),(14,.pointer (some ⟨P,0,none⟩)),(15,.i B)] a∧Ext w wl∧y0.heap.size ≤ wl.heap.size∧Box wl O [.i G.period_,.i G.rise_,.i G.fall_] 59∧Box wl P [.i J.period_,.i J.rise_,.i J.fall_] 59∧own2 (cInt .i64) wl (X) (wl.heap.size) 50 2 U N l∧(∀ q,N.ownBlock = some q → X ≤ q∧q < wl.heap.size)∧(∀ g,N.ownBlock = some g → g ≠ O)∧(∀ g,N.ownBlock = some g → g ≠ P)∧F_n_L1 n W K0 G J (fun U B => (some U)) V U B = some r) n ?_ ?_
  · intro a hK;exact ⟨(([]:List (List Int))),N0,[],s0,hK.sub rfl,e0,Nat.le_refl _,C,I,(own2.wide A (by omega)),(fun g hg => by have:=Q g hg;omega),(Nb.of Q (by omega)),(Nb.of Q (by omega)),hF⟩
  · rintro V a f1 ⟨U,N,l,B,hK,z,U1,D,E,F,e,B0,C0,hF⟩;revert a;change WC _ _ _ _ _ _
    cases V with
    | zero => exact nos hF
    | succ V =>
      rw [F_n_L1.eq_2] at hF;refine Rc 8 (Wc rfl hF ?_ ?_)
      · intro hF;refine Rc 7 (Yl rfl (ynb rfl ag_59 E cn_59) (Ro 3 ?_));have ⟨M,n0,hF⟩:=bsome hF;refine Ef rfl (eca rfl gf_29 (W_t n0 :)) ?_;rintro _ g1 ⟨rfl,Z⟩;obtain ⟨f0,W1⟩:=Et z Z;have D:=D.ext Z;have E:=E.ext Z;have F:=F.ext Z (by omega);refine Ef rfl (eff_buildSlice (c:=(cInt .i64)) (xs:=[B,M]) (S:=(Iv 0 0)) (uss:=[(0,[.i B]),(1,[.i M])]) (out:=[.i B,.i M]) rfl underlying50 in_2 rfl rfl (fillL_all [[.i B],[.i M]] rfl rfl rfl) rfl rfl rfl rfl (one_rep (uss:=[[.i B],[.i M]]) (show reps _ _ _ _ _ from ⟨rfl,rfl,trivial⟩) rfl) (fun k h => by have:=h.2;omega) rfl) ?_;rintro K h1 ⟨O0,F0,D1,X1,b,R⟩;obtain ⟨g0,Y1⟩:=Et f0 b;have D:=D.ext b;have E:=E.ext b;have F:=F.ext b (by omega);have V0:=bd_of F0;clear F0;refine Ef rfl (eff_buildSlice (c:=cRaw) (xs:=([K]:List Value)) (S:=(Iv 0 0)) (uss:=[(0,[K])]) (out:=[K]) rfl underlying24 in_50 rfl (pt_cons (slRep.cl (ownR.slf R nr nr)) rfl) (fillL_all [[K]] rfl rfl rfl) rfl rfl rfl rfl (one_rep (uss:=[[K]]) (show reps _ _ _ _ _ from ⟨⟨rfl,ownR.one R⟩,trivial⟩) rfl) (fun k h => by have:=h.2;omega) rfl) ?_;rintro u0 z0 ⟨P0,G0,B1,I1,T,p0⟩;obtain ⟨X0,J1⟩:=Et g0 T;have D:=D.ext T;have E:=E.ext T;have F:=F.ext T (by omega);have R:=R.ext T;have T0:=bd_of G0;clear G0;have q0:own2 (cInt .i64) z0 (O0) (P0) 50 2 ([[B,M]]) u0 [K]:=(own2.lit1 p0 R T0 V0 (by omega) (by omega) (by omega) (by omega));have ⟨A1,Q0,hF⟩:=bsome hF;refine Ef rfl (eff_append2 rfl underlying24 in_50 rfl rfl rfl rfl F q0 (by omega) (by omega) (by omega) (by omega) (by omega) (Ns.of e (by omega)) Q0) ?_;rintro t0 Z1 ⟨D0,L⟩;obtain ⟨Y0,K1⟩:=Ge X0 L e (by omega);have h0:Nb _ O:=Gb L B0 (by omega);have D:=Grew.box L D B0;have i0:Nb _ P:=Gb L C0 (by omega);have E:=Grew.box L E C0;have U0:=Gd2 L (own2.r D0) e (by omega) (by omega);refine Ro 6 (Yl rfl (yfa rfl fo_59_0) (Yl rfl (ylb rfl ag_2 D rfl) (Ro 4 ?_)));intro a hK;exact ⟨V,Nat.le.refl,A1,t0,((l ++ [K])),(wrap .i64 (B + G.period_)),hK.sub rfl,Y0,(by omega),D,E,(own2.wide D0 (by omega)),(fun g hg => by have:=U0 g hg;omega),h0,i0,hF⟩
      · intro hF;refine Rc 12 ?_;obtain rfl:=szs hF;exact Ne rfl rfl ⟨_,rfl,_,_,rfl,(own2.wide (own2.base F (by omega)) (by omega)),z⟩
def F_07 (n:Nat) (a0:List S_Clock) (a1:Int) (a2:Int) (a3:Int) (a4:Int):Option ((List (List Int)) × Int):=((F_05 n a0 a1 a2 a3 a4).bind fun r3=>(bif (r3 != 0) then (some (([]:List (List Int)), r3)) else ((F_n n a0 a1 a2 a3 a4).bind fun r22=>(some (r22, 0)))))
theorem W_07 {C:List S_Clock} {D:Int} {E:Int} {F:Int} {G:Int} {r:(List (List Int)) × Int} {O:Value} (hF:F_07 n C D E F G = some r) (hH:H ≤ w.heap.size) (J:slRep C_Clock w (Iv 0 H) C O) :
    Calls prog 5 [O,.i D,.i E,.i F,.i G].toArray w (Ret fun u B => ∃ N u0_0,u = .tuple #[N,.i r.2]∧own2 (cInt .i64) B (w.heap.size) (B.heap.size) 50 2 r.1 N u0_0∧Ext w B):=by
  refine calls_ofD func5 rfl ntmps5 ?_;have K:Ext w w:=Ext.refl w;unfold F_07 at hF;refine Rc 14 ?_;have ⟨m,T,hF⟩:=bsome hF;refine Ef rfl (eca rfl gf_14 (W_05 T (by omega) (J.oh hH K) :)) ?_;rintro _ s ⟨rfl,Y⟩;obtain ⟨A,j⟩:=Et K Y;refine Ro 9 (Wc rfl hF ?_ ?_)
  · intro hF;refine Rc 2 ?_;refine Ef rfl (eff_buildSlice (c:=cRaw) (xs:=([]:List Value)) (S:=(Iv 0 0)) (uss:=[]) (out:=[]) rfl underlying24 in_50 rfl rfl (fillL_all [] rfl rfl rfl) rfl rfl rfl rfl (one_rep (uss:=[]) (show reps _ _ _ _ _ from trivial) rfl) (fun k h => by have:=h.2;omega) rfl) ?_;rintro Z a ⟨I,M,e,f,W,U⟩;obtain ⟨P,g⟩:=Et A W;have b:=bd_of M;clear M;have V:own2 (cInt .i64) a (I) (I) 50 2 (([]:List (List Int))) Z []:=(own2.lit0 U);refine Ro 7 ?_;obtain rfl:=szs hF;exact Ne rfl rfl ⟨_,rfl,_,_,rfl,(own2.wide (own2.base V (by omega)) (by omega)),P⟩
  · intro hF;refine Rc 9 ?_;have ⟨l,R,hF⟩:=bsome hF;refine Ef rfl (eca rfl gf_15 (W_n R (by omega) (J.oh hH A) :)) ?_;rintro o q ⟨_,p,rfl,L,X⟩;obtain ⟨Q,i⟩:=Et A X;have d:=ownR.blk (own2.r L);refine Ro 5 ?_;obtain rfl:=szs hF;exact Ne rfl rfl ⟨_,rfl,_,_,rfl,(own2.wide (own2.base L (by omega)) (by omega)),Q⟩
end Go.Proofs.YtiaobghojdehbaaDoor
