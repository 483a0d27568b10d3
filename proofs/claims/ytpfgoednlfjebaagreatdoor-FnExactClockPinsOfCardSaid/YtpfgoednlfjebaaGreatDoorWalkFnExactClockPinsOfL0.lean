/- The walks: every function that FnExactClockPinsOf reaches computes the plain function that is typed beside it; no condition. -/
import Derived.Test.YtpfgoednlfjebaaGreatDoorWalkFnExactClockPinsOfB0
set_option linter.all false
set_option maxRecDepth 20000
set_option maxHeartbeats 40000000
namespace Go.Proofs.YtpfgoednlfjebaaGreatDoor
open Go Go.RowKit Go.Eng Go.Proofs.Tryz
open Go.IntKind (wrap)
variable {n H:Nat} {w:World}
def F_o (n:Nat) (a0:List Int) (a1:Int):Option Int:=(bif decide (wrap .i64 (a1 - ((a0.length:Int))) < 0) then (some (-1)) else (some (wrap .i64 (a1 - ((a0.length:Int))))))
theorem W_o {B:List Int} {C:Int} {r:Int} {D:Value} (hF:F_o n B C = some r) (hH:H ≤ w.heap.size) (E:slRep (cInt .i64) w (Iv 0 H) B D) :
    Calls prog 96 [D,.i C].toArray w (Ret fun u F => u = .i r∧Ext w F):=by
  refine calls_ofD func96 rfl ntmps96 ?_;have A:=Ext.refl w;unfold F_o at hF;refine Rc 9 (Yl rfl (yle rfl underlying33 (E.oh hH A)) (Ro 11 (Wc rfl hF ?_ ?_)))
  · intro hF;refine Rc 7 ?_;cases szt hF;exact Ne rfl rfl ⟨_,rfl,rfl,A⟩
  · intro hF;refine Rc 9 ?_;cases szt hF;exact Ne rfl rfl ⟨_,rfl,rfl,A⟩
def F_22 (n:Nat) (a0:S_Pin) (a1:Int):Option Int:=(bif decide (wrap .i64 (a1 - ((a0.Name.size:Int))) < 0) then (some (-1)) else (some (wrap .i64 (a1 - ((a0.Name.size:Int))))))
theorem W_22 {A:S_Pin} {D:Int} {r:Int} (hF:F_22 n A D = some r) :
    Calls prog 147 [.agg #[.string A.Name,.i A.Dir,.i A.Cap,.bool A.Clock],.i D].toArray w (Ret fun u C => u = .i r∧Ext w C):=by
  refine calls_ofD func147 rfl ntmps147 ?_;have G:=Ext.refl w;unfold F_22 at hF;refine Rc 2 (Ef rfl (eff_box rfl rfl) ?_);rintro _ C ⟨F,rfl,I,J,H,B⟩;have B:Box C F [.string A.Name,.i A.Dir,.i A.Cap,.bool A.Clock] 215:=B;have ⟨E,K⟩:=Et G H;refine Ro 6 (Yl rfl (yfa rfl fo_215_0) (Yl rfl (ylb rfl ag_9 B rfl) (Yl rfl (yld_lens rfl underlying9 rfl) (Ro 11 (Wc rfl hF ?_ ?_)))))
  · intro hF;refine Rc 7 ?_;cases szt hF;exact Ne rfl rfl ⟨_,rfl,rfl,E⟩
  · intro hF;refine Rc 9 ?_;cases szt hF;exact Ne rfl rfl ⟨_,rfl,rfl,E⟩
def F_00_L1 (n:Nat) (a0:List S_Pin) (k0:Int→Int→Option Int):Nat→Int→Int→Option Int
  | 0, _, _=>none
  | m + 1, i5, i6=>(bif decide (i6 < (a0.length:Int)) then ((getI a0 i6).bind fun x7=>((F_22 n x7 i5).bind fun r16=>(bif decide (r16 < 0) then (some (-1)) else (F_00_L1 n a0 k0 m r16 (wrap .i64 (i6 + 1)))))) else (k0 i5 i6))
def F_00 (n:Nat) (a0:List S_Pin) (a1:Int):Option Int:=(bif decide (wrap .i64 (a1 - ((a0.length:Int))) < 0) then (some (-1)) else (F_00_L1 n a0 (fun i5 i6=>(some i5)) n (wrap .i64 (a1 - ((a0.length:Int)))) 0))
theorem W_00 {D:List S_Pin} {G:Int} {r:Int} {K:Value} (hF:F_00 n D G = some r) (hH:H ≤ w.heap.size) (I:slRep C_Pin w (Iv 0 H) D K) :
    Calls prog 124 [K,.i G].toArray w (Ret fun u S => u = .i r∧Ext w S):=by
  refine calls_ofD func124 rfl ntmps124 ?_;have J:=Ext.refl w;unfold F_00 at hF;refine Rc 9 (Yl rfl (yle rfl underlying165 (I.oh hH J)) (Ro 11 (Wc rfl hF ?_ ?_)))
  · intro hF;refine Rc 7 ?_;cases szt hF;exact Ne rfl rfl ⟨_,rfl,rfl,J⟩
  · intro hF;refine Rc 9 ?_;refine WC.loopD (fun C a wl => ∃ (A:Int) (B:Int),Kn 27 [(0,K),(1,.i A),(5,.i B)] a∧Ext w wl∧w.heap.size ≤ wl.heap.size∧F_00_L1 n D (fun A B => (some A)) C A B = some r) n ?_ ?_
    · intro a hK;exact ⟨(wrap .i64 (G - ((D.length:Int)))),0,hK.sub rfl,J,Nat.le_refl _,hF⟩
    · rintro C a b ⟨A,B,hK,E,W,hF⟩;revert a;change WC _ _ _ _ _ _
      cases C with
      | zero => exact nos hF
      | succ C =>
        rw [F_00_L1.eq_2] at hF;refine Rc 5 (Yl rfl (yle rfl underlying165 (I.oh hH E)) (Ro 3 (Wc rfl hF ?_ ?_)))
        · intro hF;refine Rc 8 ?_;have ⟨F,Q,hF⟩:=bsome hF;refine Ye rfl (yix rfl underlying165 cn_215 (I.oh hH E) Q) ?_;rintro _ ⟨T,X,Y,rfl,U,N,M⟩;obtain rfl:=C_Pin_open N;refine Yl rfl (yln (us:=[.string F.Name,.i F.Dir,.i F.Cap,.bool F.Clock]) rfl ag_215 M cn_215) (Ro 1 ?_);have ⟨R,O,hF⟩:=bsome hF;refine Ef rfl (eca rfl gf_147 (W_22 O :)) ?_;rintro _ Z ⟨rfl,P⟩;have ⟨L,V⟩:=Et E P;refine Ro 9 (Wc rfl hF ?_ ?_)
          · intro hF;refine Rc 11 ?_;cases szt hF;exact Ne rfl rfl ⟨_,rfl,rfl,L⟩
          · intro hF;refine Rc 9 ?_;intro a hK;exact ⟨C,nr,R,(wrap .i64 (B + 1)),hK.sub rfl,L,(by omega),hF⟩
        · intro hF;refine Rc 12 ?_;cases szt hF;exact Ne rfl rfl ⟨_,rfl,rfl,E⟩
def F_23 (n:Nat) (a0:S_Table) (a1:Int):Option Int:=((F_o n a0.Slews a1).bind fun r14=>(bif decide (r14 < 0) then (some (-1)) else ((F_o n a0.Loads r14).bind fun r20=>(bif decide (r20 < 0) then (some (-1)) else ((F_o n a0.Values r20).bind fun r26=>(bif decide (r26 < 0) then (some (-1)) else (some r26)))))))
theorem W_23 {B:S_Table} {I:Int} {r:Int} {E F G:Value} (hF:F_23 n B I = some r) (hH:H ≤ w.heap.size) (O:slRep (cInt .i64) w (Iv 0 H) B.Slews E) (P:slRep (cInt .i64) w (Iv 0 H) B.Loads F) (Q:slRep (cInt .i64) w (Iv 0 H) B.Values G) :
    Calls prog 173 [.agg #[E,F,G],.i I].toArray w (Ret fun u X => u = .i r∧Ext w X):=by
  refine calls_ofD func173 rfl ntmps173 ?_;have R:=Ext.refl w;unfold F_23 at hF;refine Rc 2 (Ef rfl (eff_box rfl rfl) ?_);rintro _ Y ⟨N,rfl,Z,a,S,A⟩;have A:Box Y N [E,F,G] 242:=A;have ⟨J,b⟩:=Et R S;refine Ro 5 (Yl rfl (yfa rfl fo_242_0) (Yl rfl (ylb rfl ag_33 A rfl) (Ro 1 ?_)));have ⟨f,T,hF⟩:=bsome hF;refine Ef rfl (eca rfl gf_96 (W_o T (by omega) (O.oh hH J) :)) ?_;rintro _ i ⟨rfl,L⟩;have ⟨C,c⟩:=Et J L;have A:=A.ext L;refine Ro 10 (Wc rfl hF ?_ ?_)
  · intro hF;refine Rc 7 ?_;cases szt hF;exact Ne rfl rfl ⟨_,rfl,rfl,C⟩
  · intro hF;refine Rc 4 (Yl rfl (yfa rfl fo_242_1) (Yl rfl (ylb rfl ag_33 A rfl) (Ro 1 ?_)));have ⟨g,U,hF⟩:=bsome hF;refine Ef rfl (eca rfl gf_96 (W_o U (by omega) (P.oh hH C) :)) ?_;rintro _ j ⟨rfl,M⟩;have ⟨D,d⟩:=Et C M;have A:=A.ext M;refine Ro 10 (Wc rfl hF ?_ ?_)
    · intro hF;refine Rc 7 ?_;cases szt hF;exact Ne rfl rfl ⟨_,rfl,rfl,D⟩
    · intro hF;refine Rc 4 (Yl rfl (yfa rfl fo_242_2) (Yl rfl (ylb rfl ag_33 A rfl) (Ro 1 ?_)));have ⟨h,V,hF⟩:=bsome hF;refine Ef rfl (eca rfl gf_96 (W_o V (by omega) (Q.oh hH D) :)) ?_;rintro _ k ⟨rfl,W⟩;have ⟨K,e⟩:=Et D W;refine Ro 10 (Wc rfl hF ?_ ?_)
      · intro hF;refine Rc 7 ?_;cases szt hF;exact Ne rfl rfl ⟨_,rfl,rfl,K⟩
      · intro hF;refine Rc 9 ?_;cases szt hF;exact Ne rfl rfl ⟨_,rfl,rfl,K⟩
def F_z_L1 (n:Nat) (a0:List S_Table) (k0:Int→Int→Option Int):Nat→Int→Int→Option Int
  | 0, _, _=>none
  | m + 1, i5, i6=>(bif decide (i6 < (a0.length:Int)) then ((getI a0 i6).bind fun x7=>((F_23 n x7 i5).bind fun r22=>(bif decide (r22 < 0) then (some (-1)) else (F_z_L1 n a0 k0 m r22 (wrap .i64 (i6 + 1)))))) else (k0 i5 i6))
def F_z (n:Nat) (a0:List S_Table) (a1:Int):Option Int:=(bif decide (wrap .i64 (a1 - ((a0.length:Int))) < 0) then (some (-1)) else (F_z_L1 n a0 (fun i5 i6=>(some i5)) n (wrap .i64 (a1 - ((a0.length:Int)))) 0))
theorem W_z {D:List S_Table} {F:Int} {r:Int} {J:Value} (hF:F_z n D F = some r) (hH:H ≤ w.heap.size) (G:slRep C_Table w (Iv 0 H) D J) :
    Calls prog 162 [J,.i F].toArray w (Ret fun u X => u = .i r∧Ext w X):=by
  refine calls_ofD func162 rfl ntmps162 ?_;have I:=Ext.refl w;unfold F_z at hF;refine Rc 9 (Yl rfl (yle rfl underlying217 (G.oh hH I)) (Ro 11 (Wc rfl hF ?_ ?_)))
  · intro hF;refine Rc 7 ?_;cases szt hF;exact Ne rfl rfl ⟨_,rfl,rfl,I⟩
  · intro hF;refine Rc 9 ?_;refine WC.loopD (fun C a wl => ∃ (A:Int) (B:Int),Kn 27 [(0,J),(1,.i A),(5,.i B)] a∧Ext w wl∧w.heap.size ≤ wl.heap.size∧F_z_L1 n D (fun A B => (some A)) C A B = some r) n ?_ ?_
    · intro a hK;exact ⟨(wrap .i64 (F - ((D.length:Int)))),0,hK.sub rfl,I,Nat.le_refl _,hF⟩
    · rintro C a g ⟨A,B,hK,E,c,hF⟩;revert a;change WC _ _ _ _ _ _
      cases C with
      | zero => exact nos hF
      | succ C =>
        rw [F_z_L1.eq_2] at hF;refine Rc 5 (Yl rfl (yle rfl underlying217 (G.oh hH E)) (Ro 3 (Wc rfl hF ?_ ?_)))
        · intro hF;refine Rc 8 ?_;have ⟨h,S,hF⟩:=bsome hF;refine Ye rfl (yix rfl underlying217 cn_242 (G.oh hH E) S) ?_;rintro _ ⟨Y,d,e,rfl,Z,M,L⟩;obtain ⟨U,V,W,rfl,O,P,Q⟩:=C_Table_open M;refine Yl rfl (yln (us:=[U,V,W]) rfl ag_242 L cn_242) (Ro 1 ?_);have ⟨T,N,hF⟩:=bsome hF;refine Ef rfl (eca rfl gf_173 (W_23 N (by omega) O P Q :)) ?_;rintro _ f ⟨rfl,R⟩;have ⟨K,b⟩:=Et E R;refine Ro 9 (Wc rfl hF ?_ ?_)
          · intro hF;refine Rc 11 ?_;cases szt hF;exact Ne rfl rfl ⟨_,rfl,rfl,K⟩
          · intro hF;refine Rc 9 ?_;intro a hK;exact ⟨C,nr,T,(wrap .i64 (B + 1)),hK.sub rfl,K,(by omega),hF⟩
        · intro hF;refine Rc 12 ?_;cases szt hF;exact Ne rfl rfl ⟨_,rfl,rfl,E⟩
def F_24 (n:Nat) (a0:S_Arc) (a1:Int):Option Int:=((F_z n a0.Delay a1).bind fun r12=>(bif decide (r12 < 0) then (some (-1)) else ((F_z n a0.Slew r12).bind fun r18=>(bif decide (r18 < 0) then (some (-1)) else (some r18)))))
theorem W_24 {A:S_Arc} {F:Int} {r:Int} {D E:Value} (hF:F_24 n A F = some r) (hH:H ≤ w.heap.size) (L:slRep C_Table w (Iv 0 H) A.Delay D) (M:slRep C_Table w (Iv 0 H) A.Slew E) :
    Calls prog 148 [.agg #[.i A.Kind,.i A.From,.i A.To,.i A.Sense,D,E],.i F].toArray w (Ret fun u S => u = .i r∧Ext w S):=by
  refine calls_ofD func148 rfl ntmps148 ?_;have N:=Ext.refl w;unfold F_24 at hF;refine Rc 2 (Ef rfl (eff_box rfl rfl) ?_);rintro _ T ⟨K,rfl,U,V,O,B⟩;have B:Box T K [.i A.Kind,.i A.From,.i A.To,.i A.Sense,D,E] 219:=B;have ⟨G,W⟩:=Et N O;refine Ro 5 (Yl rfl (yfa rfl fo_219_4) (Yl rfl (ylb rfl ag_217 B rfl) (Ro 1 ?_)));have ⟨Z,P,hF⟩:=bsome hF;refine Ef rfl (eca rfl gf_162 (W_z P (by omega) (L.oh hH G) :)) ?_;rintro _ b ⟨rfl,J⟩;have ⟨C,X⟩:=Et G J;have B:=B.ext J;refine Ro 10 (Wc rfl hF ?_ ?_)
  · intro hF;refine Rc 7 ?_;cases szt hF;exact Ne rfl rfl ⟨_,rfl,rfl,C⟩
  · intro hF;refine Rc 4 (Yl rfl (yfa rfl fo_219_5) (Yl rfl (ylb rfl ag_217 B rfl) (Ro 1 ?_)));have ⟨a,Q,hF⟩:=bsome hF;refine Ef rfl (eca rfl gf_162 (W_z Q (by omega) (M.oh hH C) :)) ?_;rintro _ c ⟨rfl,R⟩;have ⟨I,Y⟩:=Et C R;refine Ro 10 (Wc rfl hF ?_ ?_)
    · intro hF;refine Rc 7 ?_;cases szt hF;exact Ne rfl rfl ⟨_,rfl,rfl,I⟩
    · intro hF;refine Rc 9 ?_;cases szt hF;exact Ne rfl rfl ⟨_,rfl,rfl,I⟩
def F_01_L1 (n:Nat) (a0:List S_Arc) (k0:Int→Int→Option Int):Nat→Int→Int→Option Int
  | 0, _, _=>none
  | m + 1, i5, i6=>(bif decide (i6 < (a0.length:Int)) then ((getI a0 i6).bind fun x7=>((F_24 n x7 i5).bind fun r20=>(bif decide (r20 < 0) then (some (-1)) else (F_01_L1 n a0 k0 m r20 (wrap .i64 (i6 + 1)))))) else (k0 i5 i6))
def F_01 (n:Nat) (a0:List S_Arc) (a1:Int):Option Int:=(bif decide (wrap .i64 (a1 - ((a0.length:Int))) < 0) then (some (-1)) else (F_01_L1 n a0 (fun i5 i6=>(some i5)) n (wrap .i64 (a1 - ((a0.length:Int)))) 0))
theorem W_01 {D:List S_Arc} {G:Int} {r:Int} {K:Value} (hF:F_01 n D G = some r) (hH:H ≤ w.heap.size) (I:slRep C_Arc w (Iv 0 H) D K) :
    Calls prog 125 [K,.i G].toArray w (Ret fun u W => u = .i r∧Ext w W):=by
  refine calls_ofD func125 rfl ntmps125 ?_;have J:=Ext.refl w;unfold F_01 at hF;refine Rc 9 (Yl rfl (yle rfl underlying166 (I.oh hH J)) (Ro 11 (Wc rfl hF ?_ ?_)))
  · intro hF;refine Rc 7 ?_;cases szt hF;exact Ne rfl rfl ⟨_,rfl,rfl,J⟩
  · intro hF;refine Rc 9 ?_;refine WC.loopD (fun C a wl => ∃ (A:Int) (B:Int),Kn 27 [(0,K),(1,.i A),(5,.i B)] a∧Ext w wl∧w.heap.size ≤ wl.heap.size∧F_01_L1 n D (fun A B => (some A)) C A B = some r) n ?_ ?_
    · intro a hK;exact ⟨(wrap .i64 (G - ((D.length:Int)))),0,hK.sub rfl,J,Nat.le_refl _,hF⟩
    · rintro C a f ⟨A,B,hK,E,b,hF⟩;revert a;change WC _ _ _ _ _ _
      cases C with
      | zero => exact nos hF
      | succ C =>
        rw [F_01_L1.eq_2] at hF;refine Rc 5 (Yl rfl (yle rfl underlying166 (I.oh hH E)) (Ro 3 (Wc rfl hF ?_ ?_)))
        · intro hF;refine Rc 8 ?_;have ⟨F,S,hF⟩:=bsome hF;refine Ye rfl (yix rfl underlying166 cn_219 (I.oh hH E) S) ?_;rintro _ ⟨X,c,d,rfl,Y,N,M⟩;obtain ⟨U,V,rfl,P,Q⟩:=C_Arc_open N;refine Yl rfl (yln (us:=[.i F.Kind,.i F.From,.i F.To,.i F.Sense,U,V]) rfl ag_219 M cn_219) (Ro 1 ?_);have ⟨T,O,hF⟩:=bsome hF;refine Ef rfl (eca rfl gf_148 (W_24 O (by omega) P Q :)) ?_;rintro _ e ⟨rfl,R⟩;have ⟨L,Z⟩:=Et E R;refine Ro 9 (Wc rfl hF ?_ ?_)
          · intro hF;refine Rc 11 ?_;cases szt hF;exact Ne rfl rfl ⟨_,rfl,rfl,L⟩
          · intro hF;refine Rc 9 ?_;intro a hK;exact ⟨C,nr,T,(wrap .i64 (B + 1)),hK.sub rfl,L,(by omega),hF⟩
        · intro hF;refine Rc 12 ?_;cases szt hF;exact Ne rfl rfl ⟨_,rfl,rfl,E⟩
def F_25 (n:Nat) (a0:S_Cell) (a1:Int):Option Int:=(bif decide (wrap .i64 (a1 - ((a0.Name.size:Int))) < 0) then (some (-1)) else ((F_00 n a0.Pins (wrap .i64 (a1 - ((a0.Name.size:Int))))).bind fun r14=>(bif decide (r14 < 0) then (some (-1)) else ((F_01 n a0.Arcs r14).bind fun r20=>(bif decide (r20 < 0) then (some (-1)) else ((F_o n a0.Truth r20).bind fun r26=>(bif decide (r26 < 0) then (some (-1)) else (some r26))))))))
theorem W_25 {A:S_Cell} {J:Int} {r:Int} {F G I:Value} (hF:F_25 n A J = some r) (hH:H ≤ w.heap.size) (O:slRep C_Pin w (Iv 0 H) A.Pins F) (P:slRep C_Arc w (Iv 0 H) A.Arcs G) (Q:slRep (cInt .i64) w (Iv 0 H) A.Truth I) :
    Calls prog 93 [.agg #[.string A.Name,.i A.Kind,F,G,I,.i A.Leak,.i A.Energy],.i J].toArray w (Ret fun u X => u = .i r∧Ext w X):=by
  refine calls_ofD func93 rfl ntmps93 ?_;have R:=Ext.refl w;unfold F_25 at hF;refine Rc 2 (Ef rfl (eff_box rfl rfl) ?_);rintro _ Y ⟨N,rfl,Z,a,S,B⟩;have B:Box Y N [.string A.Name,.i A.Kind,F,G,I,.i A.Leak,.i A.Energy] 168:=B;have ⟨C,b⟩:=Et R S;refine Ro 6 (Yl rfl (yfa rfl fo_168_0) (Yl rfl (ylb rfl ag_9 B rfl) (Yl rfl (yld_lens rfl underlying9 rfl) (Ro 11 (Wc rfl hF ?_ ?_)))))
  · intro hF;refine Rc 7 ?_;cases szt hF;exact Ne rfl rfl ⟨_,rfl,rfl,C⟩
  · intro hF;refine Rc 4 (Yl rfl (yfa rfl fo_168_2) (Yl rfl (ylb rfl ag_165 B rfl) (Ro 1 ?_)));have ⟨f,T,hF⟩:=bsome hF;refine Ef rfl (eca rfl gf_124 (W_00 T (by omega) (O.oh hH C) :)) ?_;rintro _ i ⟨rfl,L⟩;have ⟨D,c⟩:=Et C L;have B:=B.ext L;refine Ro 10 (Wc rfl hF ?_ ?_)
    · intro hF;refine Rc 7 ?_;cases szt hF;exact Ne rfl rfl ⟨_,rfl,rfl,D⟩
    · intro hF;refine Rc 4 (Yl rfl (yfa rfl fo_168_3) (Yl rfl (ylb rfl ag_166 B rfl) (Ro 1 ?_)));have ⟨g,U,hF⟩:=bsome hF;refine Ef rfl (eca rfl gf_125 (W_01 U (by omega) (P.oh hH D) :)) ?_;rintro _ j ⟨rfl,M⟩;have ⟨E,d⟩:=Et D M;have B:=B.ext M;refine Ro 10 (Wc rfl hF ?_ ?_)
      · intro hF;refine Rc 7 ?_;cases szt hF;exact Ne rfl rfl ⟨_,rfl,rfl,E⟩
      · intro hF;refine Rc 4 (Yl rfl (yfa rfl fo_168_4) (Yl rfl (ylb rfl ag_33 B rfl) (Ro 1 ?_)));have ⟨h,V,hF⟩:=bsome hF;refine Ef rfl (eca rfl gf_96 (W_o V (by omega) (Q.oh hH E) :)) ?_;rintro _ k ⟨rfl,W⟩;have ⟨K,e⟩:=Et E W;refine Ro 10 (Wc rfl hF ?_ ?_)
        · intro hF;refine Rc 7 ?_;cases szt hF;exact Ne rfl rfl ⟨_,rfl,rfl,K⟩
        · intro hF;refine Rc 9 ?_;cases szt hF;exact Ne rfl rfl ⟨_,rfl,rfl,K⟩
def F_02_L1 (n:Nat) (a0:List S_Cell) (k0:Int→Int→Option Int):Nat→Int→Int→Option Int
  | 0, _, _=>none
  | m + 1, i5, i6=>(bif decide (i6 < (a0.length:Int)) then ((getI a0 i6).bind fun x7=>((F_25 n x7 i5).bind fun r22=>(bif decide (r22 < 0) then (some (-1)) else (F_02_L1 n a0 k0 m r22 (wrap .i64 (i6 + 1)))))) else (k0 i5 i6))
def F_02 (n:Nat) (a0:List S_Cell) (a1:Int):Option Int:=(bif decide (wrap .i64 (a1 - ((a0.length:Int))) < 0) then (some (-1)) else (F_02_L1 n a0 (fun i5 i6=>(some i5)) n (wrap .i64 (a1 - ((a0.length:Int)))) 0))
theorem W_02 {D:List S_Cell} {G:Int} {r:Int} {K:Value} (hF:F_02 n D G = some r) (hH:H ≤ w.heap.size) (I:slRep C_Cell w (Iv 0 H) D K) :
    Calls prog 53 [K,.i G].toArray w (Ret fun u Y => u = .i r∧Ext w Y):=by
  refine calls_ofD func53 rfl ntmps53 ?_;have J:=Ext.refl w;unfold F_02 at hF;refine Rc 9 (Yl rfl (yle rfl underlying22 (I.oh hH J)) (Ro 11 (Wc rfl hF ?_ ?_)))
  · intro hF;refine Rc 7 ?_;cases szt hF;exact Ne rfl rfl ⟨_,rfl,rfl,J⟩
  · intro hF;refine Rc 9 ?_;refine WC.loopD (fun C a wl => ∃ (A:Int) (B:Int),Kn 27 [(0,K),(1,.i A),(5,.i B)] a∧Ext w wl∧w.heap.size ≤ wl.heap.size∧F_02_L1 n D (fun A B => (some A)) C A B = some r) n ?_ ?_
    · intro a hK;exact ⟨(wrap .i64 (G - ((D.length:Int)))),0,hK.sub rfl,J,Nat.le_refl _,hF⟩
    · rintro C a h ⟨A,B,hK,E,d,hF⟩;revert a;change WC _ _ _ _ _ _
      cases C with
      | zero => exact nos hF
      | succ C =>
        rw [F_02_L1.eq_2] at hF;refine Rc 5 (Yl rfl (yle rfl underlying22 (I.oh hH E)) (Ro 3 (Wc rfl hF ?_ ?_)))
        · intro hF;refine Rc 8 ?_;have ⟨F,T,hF⟩:=bsome hF;refine Ye rfl (yix rfl underlying22 cn_168 (I.oh hH E) T) ?_;rintro _ ⟨Z,e,f,rfl,b,N,M⟩;obtain ⟨V,W,X,rfl,P,Q,R⟩:=C_Cell_open N;refine Yl rfl (yln (us:=[.string F.Name,.i F.Kind,V,W,X,.i F.Leak,.i F.Energy]) rfl ag_168 M cn_168) (Ro 1 ?_);have ⟨U,O,hF⟩:=bsome hF;refine Ef rfl (eca rfl gf_93 (W_25 O (by omega) P Q R :)) ?_;rintro _ g ⟨rfl,S⟩;have ⟨L,c⟩:=Et E S;refine Ro 9 (Wc rfl hF ?_ ?_)
          · intro hF;refine Rc 11 ?_;cases szt hF;exact Ne rfl rfl ⟨_,rfl,rfl,L⟩
          · intro hF;refine Rc 9 ?_;intro a hK;exact ⟨C,nr,U,(wrap .i64 (B + 1)),hK.sub rfl,L,(by omega),hF⟩
        · intro hF;refine Rc 12 ?_;cases szt hF;exact Ne rfl rfl ⟨_,rfl,rfl,E⟩
def F_2a (n:Nat) (a0:S_Library) (a1:Int):Option Int:=((F_02 n a0.Cells a1).bind fun r10=>(bif decide (r10 < 0) then (some (-1)) else (some r10)))
theorem W_2a {C:S_Library} {D:Int} {r:Int} {B:Value} (hF:F_2a n C D = some r) (hH:H ≤ w.heap.size) (I:slRep C_Cell w (Iv 0 H) C.Cells B) :
    Calls prog 20 [.agg #[B],.i D].toArray w (Ret fun u N => u = .i r∧Ext w N):=by
  refine calls_ofD func20 rfl ntmps20 ?_;have J:=Ext.refl w;unfold F_2a at hF;refine Rc 2 (Ef rfl (eff_box rfl rfl) ?_);rintro _ O ⟨G,rfl,P,Q,K,A⟩;have A:Box O G [B] 24:=A;have ⟨F,S⟩:=Et J K;refine Ro 5 (Yl rfl (yfa rfl fo_24_0) (Yl rfl (ylb rfl ag_22 A rfl) (Ro 1 ?_)));have ⟨T,L,hF⟩:=bsome hF;refine Ef rfl (eca rfl gf_53 (W_02 L (by omega) (I.oh hH F) :)) ?_;rintro _ U ⟨rfl,M⟩;have ⟨E,R⟩:=Et F M;refine Ro 10 (Wc rfl hF ?_ ?_)
  · intro hF;refine Rc 7 ?_;cases szt hF;exact Ne rfl rfl ⟨_,rfl,rfl,E⟩
  · intro hF;refine Rc 9 ?_;cases szt hF;exact Ne rfl rfl ⟨_,rfl,rfl,E⟩
def F_26 (n:Nat) (a0:S_Instance) (a1:Int):Option Int:=(bif decide (wrap .i64 (a1 - ((a0.Name.size:Int))) < 0) then (some (-1)) else ((F_o n a0.Nets (wrap .i64 (a1 - ((a0.Name.size:Int))))).bind fun r10=>(bif decide (r10 < 0) then (some (-1)) else (some r10))))
theorem W_26 {A:S_Instance} {E:Int} {r:Int} {D:Value} (hF:F_26 n A E = some r) (hH:H ≤ w.heap.size) (I:slRep (cInt .i64) w (Iv 0 H) A.Nets D) :
    Calls prog 94 [.agg #[.string A.Name,.i A.Cell,D],.i E].toArray w (Ret fun u N => u = .i r∧Ext w N):=by
  refine calls_ofD func94 rfl ntmps94 ?_;have J:=Ext.refl w;unfold F_26 at hF;refine Rc 2 (Ef rfl (eff_box rfl rfl) ?_);rintro _ O ⟨G,rfl,P,Q,K,B⟩;have B:Box O G [.string A.Name,.i A.Cell,D] 170:=B;have ⟨C,S⟩:=Et J K;refine Ro 6 (Yl rfl (yfa rfl fo_170_0) (Yl rfl (ylb rfl ag_9 B rfl) (Yl rfl (yld_lens rfl underlying9 rfl) (Ro 11 (Wc rfl hF ?_ ?_)))))
  · intro hF;refine Rc 7 ?_;cases szt hF;exact Ne rfl rfl ⟨_,rfl,rfl,C⟩
  · intro hF;refine Rc 4 (Yl rfl (yfa rfl fo_170_2) (Yl rfl (ylb rfl ag_33 B rfl) (Ro 1 ?_)));have ⟨T,L,hF⟩:=bsome hF;refine Ef rfl (eca rfl gf_96 (W_o L (by omega) (I.oh hH C) :)) ?_;rintro _ U ⟨rfl,M⟩;have ⟨F,R⟩:=Et C M;refine Ro 10 (Wc rfl hF ?_ ?_)
    · intro hF;refine Rc 7 ?_;cases szt hF;exact Ne rfl rfl ⟨_,rfl,rfl,F⟩
    · intro hF;refine Rc 9 ?_;cases szt hF;exact Ne rfl rfl ⟨_,rfl,rfl,F⟩
def F_03_L1 (n:Nat) (a0:List S_Instance) (k0:Int→Int→Option Int):Nat→Int→Int→Option Int
  | 0, _, _=>none
  | m + 1, i5, i6=>(bif decide (i6 < (a0.length:Int)) then ((getI a0 i6).bind fun x7=>((F_26 n x7 i5).bind fun r18=>(bif decide (r18 < 0) then (some (-1)) else (F_03_L1 n a0 k0 m r18 (wrap .i64 (i6 + 1)))))) else (k0 i5 i6))
def F_03 (n:Nat) (a0:List S_Instance) (a1:Int):Option Int:=(bif decide (wrap .i64 (a1 - ((a0.length:Int))) < 0) then (some (-1)) else (F_03_L1 n a0 (fun i5 i6=>(some i5)) n (wrap .i64 (a1 - ((a0.length:Int)))) 0))
theorem W_03 {D:List S_Instance} {F:Int} {r:Int} {J:Value} (hF:F_03 n D F = some r) (hH:H ≤ w.heap.size) (G:slRep C_Instance w (Iv 0 H) D J) :
    Calls prog 54 [J,.i F].toArray w (Ret fun u U => u = .i r∧Ext w U):=by
  refine calls_ofD func54 rfl ntmps54 ?_;have I:=Ext.refl w;unfold F_03 at hF;refine Rc 9 (Yl rfl (yle rfl underlying25 (G.oh hH I)) (Ro 11 (Wc rfl hF ?_ ?_)))
  · intro hF;refine Rc 7 ?_;cases szt hF;exact Ne rfl rfl ⟨_,rfl,rfl,I⟩
  · intro hF;refine Rc 9 ?_;refine WC.loopD (fun C a wl => ∃ (A:Int) (B:Int),Kn 27 [(0,J),(1,.i A),(5,.i B)] a∧Ext w wl∧w.heap.size ≤ wl.heap.size∧F_03_L1 n D (fun A B => (some A)) C A B = some r) n ?_ ?_
    · intro a hK;exact ⟨(wrap .i64 (F - ((D.length:Int)))),0,hK.sub rfl,I,Nat.le_refl _,hF⟩
    · rintro C a d ⟨A,B,hK,E,Y,hF⟩;revert a;change WC _ _ _ _ _ _
      cases C with
      | zero => exact nos hF
      | succ C =>
        rw [F_03_L1.eq_2] at hF;refine Rc 5 (Yl rfl (yle rfl underlying25 (G.oh hH E)) (Ro 3 (Wc rfl hF ?_ ?_)))
        · intro hF;refine Rc 8 ?_;have ⟨L,R,hF⟩:=bsome hF;refine Ye rfl (yix rfl underlying25 cn_170 (G.oh hH E) R) ?_;rintro _ ⟨V,Z,b,rfl,W,N,M⟩;obtain ⟨T,rfl,P⟩:=C_Instance_open N;refine Yl rfl (yln (us:=[.string L.Name,.i L.Cell,T]) rfl ag_170 M cn_170) (Ro 1 ?_);have ⟨S,O,hF⟩:=bsome hF;refine Ef rfl (eca rfl gf_94 (W_26 O (by omega) P :)) ?_;rintro _ c ⟨rfl,Q⟩;have ⟨K,X⟩:=Et E Q;refine Ro 9 (Wc rfl hF ?_ ?_)
          · intro hF;refine Rc 11 ?_;cases szt hF;exact Ne rfl rfl ⟨_,rfl,rfl,K⟩
          · intro hF;refine Rc 9 ?_;intro a hK;exact ⟨C,nr,S,(wrap .i64 (B + 1)),hK.sub rfl,K,(by omega),hF⟩
        · intro hF;refine Rc 12 ?_;cases szt hF;exact Ne rfl rfl ⟨_,rfl,rfl,E⟩
def F_04_L1 (a0:List ByteArray) (k0:Int→Int→Option Int):Nat→Int→Int→Option Int
  | 0, _, _=>none
  | m + 1, i5, i6=>(bif decide (i6 < (a0.length:Int)) then ((getI a0 i6).bind fun x7=>(bif decide (wrap .i64 (i5 - ((x7.size:Int))) < 0) then (some (-1)) else (F_04_L1 a0 k0 m (wrap .i64 (i5 - ((x7.size:Int)))) (wrap .i64 (i6 + 1))))) else (k0 i5 i6))
def F_04 (n:Nat) (a0:List ByteArray) (a1:Int):Option Int:=(bif decide (wrap .i64 (a1 - ((a0.length:Int))) < 0) then (some (-1)) else (F_04_L1 a0 (fun i5 i6=>(some i5)) n (wrap .i64 (a1 - ((a0.length:Int)))) 0))
theorem W_04 {E:List ByteArray} {F:Int} {r:Int} {J:Value} (hF:F_04 n E F = some r) (hH:H ≤ w.heap.size) (G:slRep cStr w (Iv 0 H) E J) :
    Calls prog 55 [J,.i F].toArray w (Ret fun u M => u = .i r∧Ext w M):=by
  refine calls_ofD func55 rfl ntmps55 ?_;have I:=Ext.refl w;unfold F_04 at hF;refine Rc 9 (Yl rfl (yle rfl underlying26 (G.oh hH I)) (Ro 11 (Wc rfl hF ?_ ?_)))
  · intro hF;refine Rc 7 ?_;cases szt hF;exact Ne rfl rfl ⟨_,rfl,rfl,I⟩
  · intro hF;refine Rc 9 ?_;refine WC.loopD (fun D a wl => ∃ (A:Int) (C:Int),Kn 28 [(0,J),(1,.i A),(5,.i C)] a∧Ext w wl∧w.heap.size ≤ wl.heap.size∧F_04_L1 E (fun A C => (some A)) D A C = some r) n ?_ ?_
    · intro a hK;exact ⟨(wrap .i64 (F - ((E.length:Int)))),0,hK.sub rfl,I,Nat.le_refl _,hF⟩
    · rintro D a S ⟨A,C,hK,B,Q,hF⟩;revert a;change WC _ _ _ _ _ _
      cases D with
      | zero => exact nos hF
      | succ D =>
        rw [F_04_L1.eq_2] at hF;refine Rc 5 (Yl rfl (yle rfl underlying26 (G.oh hH B)) (Ro 3 (Wc rfl hF ?_ ?_)))
        · intro hF;refine Rc 9 ?_;have ⟨N,L,hF⟩:=bsome hF;refine Ye rfl (yix rfl underlying26 cn_9 (G.oh hH B) L) ?_;rintro _ ⟨O,R,_,rfl,P,rfl,K⟩;refine Yl rfl (ylc 0 rfl ag_9 K rfl rfl) (Yl rfl (yld_lens rfl underlying9 rfl) (Ro 10 (Wc rfl hF ?_ ?_)))
          · intro hF;refine Rc 11 ?_;cases szt hF;exact Ne rfl rfl ⟨_,rfl,rfl,B⟩
          · intro hF;refine Rc 9 ?_;intro a hK;exact ⟨D,nr,(wrap .i64 (A - ((N.size:Int)))),(wrap .i64 (C + 1)),hK.sub rfl,B,(by omega),hF⟩
        · intro hF;refine Rc 12 ?_;cases szt hF;exact Ne rfl rfl ⟨_,rfl,rfl,B⟩
def F_27 (n:Nat) (a0:S_Port) (a1:Int):Option Int:=(bif decide (wrap .i64 (a1 - ((a0.Name.size:Int))) < 0) then (some (-1)) else (some (wrap .i64 (a1 - ((a0.Name.size:Int))))))
theorem W_27 {A:S_Port} {D:Int} {r:Int} (hF:F_27 n A D = some r) :
    Calls prog 95 [.agg #[.string A.Name,.i A.Dir,.i A.Net],.i D].toArray w (Ret fun u C => u = .i r∧Ext w C):=by
  refine calls_ofD func95 rfl ntmps95 ?_;have G:=Ext.refl w;unfold F_27 at hF;refine Rc 2 (Ef rfl (eff_box rfl rfl) ?_);rintro _ C ⟨F,rfl,I,J,H,B⟩;have B:Box C F [.string A.Name,.i A.Dir,.i A.Net] 172:=B;have ⟨E,K⟩:=Et G H;refine Ro 6 (Yl rfl (yfa rfl fo_172_0) (Yl rfl (ylb rfl ag_9 B rfl) (Yl rfl (yld_lens rfl underlying9 rfl) (Ro 11 (Wc rfl hF ?_ ?_)))))
  · intro hF;refine Rc 7 ?_;cases szt hF;exact Ne rfl rfl ⟨_,rfl,rfl,E⟩
  · intro hF;refine Rc 9 ?_;cases szt hF;exact Ne rfl rfl ⟨_,rfl,rfl,E⟩
def F_05_L1 (n:Nat) (a0:List S_Port) (k0:Int→Int→Option Int):Nat→Int→Int→Option Int
  | 0, _, _=>none
  | m + 1, i5, i6=>(bif decide (i6 < (a0.length:Int)) then ((getI a0 i6).bind fun x7=>((F_27 n x7 i5).bind fun r16=>(bif decide (r16 < 0) then (some (-1)) else (F_05_L1 n a0 k0 m r16 (wrap .i64 (i6 + 1)))))) else (k0 i5 i6))
def F_05 (n:Nat) (a0:List S_Port) (a1:Int):Option Int:=(bif decide (wrap .i64 (a1 - ((a0.length:Int))) < 0) then (some (-1)) else (F_05_L1 n a0 (fun i5 i6=>(some i5)) n (wrap .i64 (a1 - ((a0.length:Int)))) 0))
theorem W_05 {D:List S_Port} {F:Int} {r:Int} {J:Value} (hF:F_05 n D F = some r) (hH:H ≤ w.heap.size) (G:slRep C_Port w (Iv 0 H) D J) :
    Calls prog 56 [J,.i F].toArray w (Ret fun u S => u = .i r∧Ext w S):=by
  refine calls_ofD func56 rfl ntmps56 ?_;have I:=Ext.refl w;unfold F_05 at hF;refine Rc 9 (Yl rfl (yle rfl underlying27 (G.oh hH I)) (Ro 11 (Wc rfl hF ?_ ?_)))
  · intro hF;refine Rc 7 ?_;cases szt hF;exact Ne rfl rfl ⟨_,rfl,rfl,I⟩
  · intro hF;refine Rc 9 ?_;refine WC.loopD (fun C a wl => ∃ (A:Int) (B:Int),Kn 27 [(0,J),(1,.i A),(5,.i B)] a∧Ext w wl∧w.heap.size ≤ wl.heap.size∧F_05_L1 n D (fun A B => (some A)) C A B = some r) n ?_ ?_
    · intro a hK;exact ⟨(wrap .i64 (F - ((D.length:Int)))),0,hK.sub rfl,I,Nat.le_refl _,hF⟩
    · rintro C a b ⟨A,B,hK,E,W,hF⟩;revert a;change WC _ _ _ _ _ _
      cases C with
      | zero => exact nos hF
      | succ C =>
        rw [F_05_L1.eq_2] at hF;refine Rc 5 (Yl rfl (yle rfl underlying27 (G.oh hH E)) (Ro 3 (Wc rfl hF ?_ ?_)))
        · intro hF;refine Rc 8 ?_;have ⟨K,Q,hF⟩:=bsome hF;refine Ye rfl (yix rfl underlying27 cn_172 (G.oh hH E) Q) ?_;rintro _ ⟨T,X,Y,rfl,U,N,M⟩;obtain rfl:=C_Port_open N;refine Yl rfl (yln (us:=[.string K.Name,.i K.Dir,.i K.Net]) rfl ag_172 M cn_172) (Ro 1 ?_);have ⟨R,O,hF⟩:=bsome hF;refine Ef rfl (eca rfl gf_95 (W_27 O :)) ?_;rintro _ Z ⟨rfl,P⟩;have ⟨L,V⟩:=Et E P;refine Ro 9 (Wc rfl hF ?_ ?_)
          · intro hF;refine Rc 11 ?_;cases szt hF;exact Ne rfl rfl ⟨_,rfl,rfl,L⟩
          · intro hF;refine Rc 9 ?_;intro a hK;exact ⟨C,nr,R,(wrap .i64 (B + 1)),hK.sub rfl,L,(by omega),hF⟩
        · intro hF;refine Rc 12 ?_;cases szt hF;exact Ne rfl rfl ⟨_,rfl,rfl,E⟩
def F_2b (n:Nat) (a0:S_Design) (a1:Int):Option Int:=((F_03 n a0.Instances a1).bind fun r14=>(bif decide (r14 < 0) then (some (-1)) else ((F_04 n a0.Nets r14).bind fun r20=>(bif decide (r20 < 0) then (some (-1)) else ((F_05 n a0.Ports r20).bind fun r26=>(bif decide (r26 < 0) then (some (-1)) else (some r26)))))))
theorem W_2b {B:S_Design} {I:Int} {r:Int} {E F G:Value} (hF:F_2b n B I = some r) (hH:H ≤ w.heap.size) (O:slRep C_Instance w (Iv 0 H) B.Instances E) (P:slRep cStr w (Iv 0 H) B.Nets F) (Q:slRep C_Port w (Iv 0 H) B.Ports G) :
    Calls prog 21 [.agg #[E,F,G],.i I].toArray w (Ret fun u X => u = .i r∧Ext w X):=by
  refine calls_ofD func21 rfl ntmps21 ?_;have R:=Ext.refl w;unfold F_2b at hF;refine Rc 2 (Ef rfl (eff_box rfl rfl) ?_);rintro _ Y ⟨N,rfl,Z,a,S,A⟩;have A:Box Y N [E,F,G] 29:=A;have ⟨J,b⟩:=Et R S;refine Ro 5 (Yl rfl (yfa rfl fo_29_0) (Yl rfl (ylb rfl ag_25 A rfl) (Ro 1 ?_)));have ⟨f,T,hF⟩:=bsome hF;refine Ef rfl (eca rfl gf_54 (W_03 T (by omega) (O.oh hH J) :)) ?_;rintro _ i ⟨rfl,L⟩;have ⟨C,c⟩:=Et J L;have A:=A.ext L;refine Ro 10 (Wc rfl hF ?_ ?_)
  · intro hF;refine Rc 7 ?_;cases szt hF;exact Ne rfl rfl ⟨_,rfl,rfl,C⟩
  · intro hF;refine Rc 4 (Yl rfl (yfa rfl fo_29_1) (Yl rfl (ylb rfl ag_26 A rfl) (Ro 1 ?_)));have ⟨g,U,hF⟩:=bsome hF;refine Ef rfl (eca rfl gf_55 (W_04 U (by omega) (P.oh hH C) :)) ?_;rintro _ j ⟨rfl,M⟩;have ⟨D,d⟩:=Et C M;have A:=A.ext M;refine Ro 10 (Wc rfl hF ?_ ?_)
    · intro hF;refine Rc 7 ?_;cases szt hF;exact Ne rfl rfl ⟨_,rfl,rfl,D⟩
    · intro hF;refine Rc 4 (Yl rfl (yfa rfl fo_29_2) (Yl rfl (ylb rfl ag_27 A rfl) (Ro 1 ?_)));have ⟨h,V,hF⟩:=bsome hF;refine Ef rfl (eca rfl gf_56 (W_05 V (by omega) (Q.oh hH D) :)) ?_;rintro _ k ⟨rfl,W⟩;have ⟨K,e⟩:=Et D W;refine Ro 10 (Wc rfl hF ?_ ?_)
      · intro hF;refine Rc 7 ?_;cases szt hF;exact Ne rfl rfl ⟨_,rfl,rfl,K⟩
      · intro hF;refine Rc 9 ?_;cases szt hF;exact Ne rfl rfl ⟨_,rfl,rfl,K⟩
def F_28 (n:Nat) (a0:S_Wire) (a1:Int):Option Int:=((F_o n a0.Parent a1).bind fun r16=>(bif decide (r16 < 0) then (some (-1)) else ((F_o n a0.Res r16).bind fun r22=>(bif decide (r22 < 0) then (some (-1)) else ((F_o n a0.Cap r22).bind fun r28=>(bif decide (r28 < 0) then (some (-1)) else ((F_o n a0.Sink r28).bind fun r34=>(bif decide (r34 < 0) then (some (-1)) else (some r34)))))))))
theorem W_28 {B:S_Wire} {K:Int} {r:Int} {F G I J:Value} (hF:F_28 n B K = some r) (hH:H ≤ w.heap.size) (R:slRep (cInt .i64) w (Iv 0 H) B.Parent F) (S:slRep (cInt .i64) w (Iv 0 H) B.Res G) (T:slRep (cInt .i64) w (Iv 0 H) B.Cap I) (U:slRep (cInt .i64) w (Iv 0 H) B.Sink J) :
    Calls prog 57 [.agg #[F,G,I,J],.i K].toArray w (Ret fun u d => u = .i r∧Ext w d):=by
  refine calls_ofD func57 rfl ntmps57 ?_;have V:=Ext.refl w;unfold F_28 at hF;refine Rc 2 (Ef rfl (eff_box rfl rfl) ?_);rintro _ c ⟨Q,rfl,e,f,W,A⟩;have A:Box c Q [F,G,I,J] 126:=A;have ⟨L,g⟩:=Et V W;refine Ro 5 (Yl rfl (yfa rfl fo_126_0) (Yl rfl (ylb rfl ag_33 A rfl) (Ro 1 ?_)));have ⟨l,X,hF⟩:=bsome hF;refine Ef rfl (eca rfl gf_96 (W_o X (by omega) (R.oh hH L) :)) ?_;rintro _ q ⟨rfl,N⟩;have ⟨C,h⟩:=Et L N;have A:=A.ext N;refine Ro 10 (Wc rfl hF ?_ ?_)
  · intro hF;refine Rc 7 ?_;cases szt hF;exact Ne rfl rfl ⟨_,rfl,rfl,C⟩
  · intro hF;refine Rc 4 (Yl rfl (yfa rfl fo_126_1) (Yl rfl (ylb rfl ag_33 A rfl) (Ro 1 ?_)));have ⟨m,Y,hF⟩:=bsome hF;refine Ef rfl (eca rfl gf_96 (W_o Y (by omega) (S.oh hH C) :)) ?_;rintro _ s ⟨rfl,O⟩;have ⟨D,i⟩:=Et C O;have A:=A.ext O;refine Ro 10 (Wc rfl hF ?_ ?_)
    · intro hF;refine Rc 7 ?_;cases szt hF;exact Ne rfl rfl ⟨_,rfl,rfl,D⟩
    · intro hF;refine Rc 4 (Yl rfl (yfa rfl fo_126_2) (Yl rfl (ylb rfl ag_33 A rfl) (Ro 1 ?_)));have ⟨o,Z,hF⟩:=bsome hF;refine Ef rfl (eca rfl gf_96 (W_o Z (by omega) (T.oh hH D) :)) ?_;rintro _ t ⟨rfl,P⟩;have ⟨E,j⟩:=Et D P;have A:=A.ext P;refine Ro 10 (Wc rfl hF ?_ ?_)
      · intro hF;refine Rc 7 ?_;cases szt hF;exact Ne rfl rfl ⟨_,rfl,rfl,E⟩
      · intro hF;refine Rc 4 (Yl rfl (yfa rfl fo_126_3) (Yl rfl (ylb rfl ag_33 A rfl) (Ro 1 ?_)));have ⟨p,a,hF⟩:=bsome hF;refine Ef rfl (eca rfl gf_96 (W_o a (by omega) (U.oh hH E) :)) ?_;rintro _ v ⟨rfl,b⟩;have ⟨M,k⟩:=Et E b;refine Ro 10 (Wc rfl hF ?_ ?_)
        · intro hF;refine Rc 7 ?_;cases szt hF;exact Ne rfl rfl ⟨_,rfl,rfl,M⟩
        · intro hF;refine Rc 9 ?_;cases szt hF;exact Ne rfl rfl ⟨_,rfl,rfl,M⟩
def F_06_L1 (n:Nat) (a0:List S_Wire) (k0:Int→Int→Option Int):Nat→Int→Int→Option Int
  | 0, _, _=>none
  | m + 1, i5, i6=>(bif decide (i6 < (a0.length:Int)) then ((getI a0 i6).bind fun x7=>((F_28 n x7 i5).bind fun r24=>(bif decide (r24 < 0) then (some (-1)) else (F_06_L1 n a0 k0 m r24 (wrap .i64 (i6 + 1)))))) else (k0 i5 i6))
def F_06 (n:Nat) (a0:List S_Wire) (a1:Int):Option Int:=(bif decide (wrap .i64 (a1 - ((a0.length:Int))) < 0) then (some (-1)) else (F_06_L1 n a0 (fun i5 i6=>(some i5)) n (wrap .i64 (a1 - ((a0.length:Int)))) 0))
theorem W_06 {D:List S_Wire} {F:Int} {r:Int} {J:Value} (hF:F_06 n D F = some r) (hH:H ≤ w.heap.size) (G:slRep C_Wire w (Iv 0 H) D J) :
    Calls prog 22 [J,.i F].toArray w (Ret fun u Z => u = .i r∧Ext w Z):=by
  refine calls_ofD func22 rfl ntmps22 ?_;have I:=Ext.refl w;unfold F_06 at hF;refine Rc 9 (Yl rfl (yle rfl underlying30 (G.oh hH I)) (Ro 11 (Wc rfl hF ?_ ?_)))
  · intro hF;refine Rc 7 ?_;cases szt hF;exact Ne rfl rfl ⟨_,rfl,rfl,I⟩
  · intro hF;refine Rc 9 ?_;refine WC.loopD (fun C a wl => ∃ (A:Int) (B:Int),Kn 27 [(0,J),(1,.i A),(5,.i B)] a∧Ext w wl∧w.heap.size ≤ wl.heap.size∧F_06_L1 n D (fun A B => (some A)) C A B = some r) n ?_ ?_
    · intro a hK;exact ⟨(wrap .i64 (F - ((D.length:Int)))),0,hK.sub rfl,I,Nat.le_refl _,hF⟩
    · rintro C a i ⟨A,B,hK,E,e,hF⟩;revert a;change WC _ _ _ _ _ _
      cases C with
      | zero => exact nos hF
      | succ C =>
        rw [F_06_L1.eq_2] at hF;refine Rc 5 (Yl rfl (yle rfl underlying30 (G.oh hH E)) (Ro 3 (Wc rfl hF ?_ ?_)))
        · intro hF;refine Rc 8 ?_;have ⟨j,T,hF⟩:=bsome hF;refine Ye rfl (yix rfl underlying30 cn_126 (G.oh hH E) T) ?_;rintro _ ⟨b,f,g,rfl,c,M,L⟩;obtain ⟨V,W,X,Y,rfl,O,P,Q,R⟩:=C_Wire_open M;refine Yl rfl (yln (us:=[V,W,X,Y]) rfl ag_126 L cn_126) (Ro 1 ?_);have ⟨U,N,hF⟩:=bsome hF;refine Ef rfl (eca rfl gf_57 (W_28 N (by omega) O P Q R :)) ?_;rintro _ h ⟨rfl,S⟩;have ⟨K,d⟩:=Et E S;refine Ro 9 (Wc rfl hF ?_ ?_)
          · intro hF;refine Rc 11 ?_;cases szt hF;exact Ne rfl rfl ⟨_,rfl,rfl,K⟩
          · intro hF;refine Rc 9 ?_;intro a hK;exact ⟨C,nr,U,(wrap .i64 (B + 1)),hK.sub rfl,K,(by omega),hF⟩
        · intro hF;refine Rc 12 ?_;cases szt hF;exact Ne rfl rfl ⟨_,rfl,rfl,E⟩
def F_2c (n:Nat) (a0:S_Block) (a1:Int):Option Int:=((F_2a n a0.Library a1).bind fun r18=>(bif decide (r18 < 0) then (some (-1)) else ((F_2b n a0.Design r18).bind fun r24=>(bif decide (r24 < 0) then (some (-1)) else ((F_06 n a0.Wires r24).bind fun r30=>(bif decide (r30 < 0) then (some (-1)) else (some r30)))))))
theorem W_2c {B:S_Block} {K:Int} {r:Int} {D E F G J:Value} (hF:F_2c n B K = some r) (hH:H ≤ w.heap.size) (R:slRep C_Cell w (Iv 0 H) B.Library.Cells D) (S:slRep C_Instance w (Iv 0 H) B.Design.Instances E) (T:slRep cStr w (Iv 0 H) B.Design.Nets F) (U:slRep C_Port w (Iv 0 H) B.Design.Ports G) (Q:slRep C_Wire w (Iv 0 H) B.Wires J) :
    Calls prog 5 [.agg #[D,E,F,G,J],.i K].toArray w (Ret fun u c => u = .i r∧Ext w c):=by
  refine calls_ofD func5 rfl ntmps5 ?_;have V:=Ext.refl w;unfold F_2c at hF;refine Rc 2 (Ef rfl (eff_box rfl rfl) ?_);rintro _ b ⟨P,rfl,d,e,W,A⟩;have A:Box b P [D,E,F,G,J] 32:=A;have ⟨L,f⟩:=Et V W;refine Ro 5 (Yl rfl (yfa rfl fo_32_0) (Yl rfl (yln (us:=[D]) rfl ag_24 (CellsAt.sub (Box.cells A) 0 1:CellsAt _ _ _ [D]) cn_24) (Ro 1 ?_)));have ⟨j,X,hF⟩:=bsome hF;refine Ef rfl (eca rfl gf_20 (W_2a X (by omega) (R.oh hH L) :)) ?_;rintro _ m ⟨rfl,N⟩;have ⟨C,g⟩:=Et L N;have A:=A.ext N;refine Ro 10 (Wc rfl hF ?_ ?_)
  · intro hF;refine Rc 7 ?_;cases szt hF;exact Ne rfl rfl ⟨_,rfl,rfl,C⟩
  · intro hF;refine Rc 4 (Yl rfl (yfa rfl fo_32_1) (Yl rfl (yln (us:=[E,F,G]) rfl ag_29 (CellsAt.sub (Box.cells A) 1 3:CellsAt _ _ _ [E,F,G]) cn_29) (Ro 1 ?_)));have ⟨k,Y,hF⟩:=bsome hF;refine Ef rfl (eca rfl gf_21 (W_2b Y (by omega) (S.oh hH C) (T.oh hH C) (U.oh hH C) :)) ?_;rintro _ o ⟨rfl,O⟩;have ⟨I,h⟩:=Et C O;have A:=A.ext O;refine Ro 10 (Wc rfl hF ?_ ?_)
    · intro hF;refine Rc 7 ?_;cases szt hF;exact Ne rfl rfl ⟨_,rfl,rfl,I⟩
    · intro hF;refine Rc 4 (Yl rfl (yfa rfl fo_32_2) (Yl rfl (ylb rfl ag_30 A rfl) (Ro 1 ?_)));have ⟨l,Z,hF⟩:=bsome hF;refine Ef rfl (eca rfl gf_22 (W_06 Z (by omega) (Q.oh hH I) :)) ?_;rintro _ p ⟨rfl,a⟩;have ⟨M,i⟩:=Et I a;refine Ro 10 (Wc rfl hF ?_ ?_)
      · intro hF;refine Rc 7 ?_;cases szt hF;exact Ne rfl rfl ⟨_,rfl,rfl,M⟩
      · intro hF;refine Rc 9 ?_;cases szt hF;exact Ne rfl rfl ⟨_,rfl,rfl,M⟩
def F_8_L1 (a0:List Int) (k0:Int→(List Int)→Option (List Int)):Nat→Int→(List Int)→Option (List Int)
  | 0, _, _=>none
  | m + 1, i19, l20=>(bif decide (i19 < (a0.length:Int)) then ((getI a0 i19).bind fun x22=>((getI l20 i19).bind fun x31=>(F_8_L1 a0 k0 m (wrap .i64 (i19 + 1)) ((l20.set (i19).toNat x22))))) else (k0 i19 l20))
def F_8 (n:Nat) (a0:List Int):Option (List Int):=((mkN ((a0.length:Int)) 8).bind fun n3=>(F_8_L1 a0 (fun i19 l20=>(some l20)) n 0 (List.replicate n3 0)))
theorem W_8 {E:List Int} {r:List Int} {I:Value} (hF:F_8 n E = some r) (hH:H ≤ w.heap.size) (F:slRep (cInt .i64) w (Iv 0 H) E I) :
    Calls prog 8 [I].toArray w (Ret fun u R => ∃ P,u = P∧ownR (cInt .i64) R w.heap.size (Iv 0 0) 2 r P∧Ext w R):=by
  refine calls_ofD func8 rfl ntmps8 ?_;have K:=Ext.refl w;unfold F_8 at hF;refine Rc 8 (Yl rfl (yle rfl underlying33 (F.oh hH K)) ?_);have ⟨i,Y,hF⟩:=bsome hF;refine Ef rfl (eff_make (c:=(cInt .i64)) (z:=0) rfl underlying33 in_2 rfl rfl rfl Y rfl rfl (fun _ => rfl)) ?_;rintro Q j ⟨S,N,o,q,f,b⟩;have ⟨W,s⟩:=Et K f;have T:=bd_of N;clear N;refine Ro 10 ?_;refine WC.loopD (fun C a wl => ∃ (A:Int) (B:List Int),Kn 22 [(0,I),(3,Q),(4,.i A)] a∧Ext w wl∧j.heap.size ≤ wl.heap.size∧ownR (cInt .i64) wl (S) (Iv 0 0) 2 B Q∧F_8_L1 E (fun A B => (some B)) C A B = some r) n ?_ ?_
  · intro a hK;exact ⟨0,(List.replicate i 0),hK.sub rfl,W,Nat.le_refl _,b,hF⟩
  · rintro C a A0 ⟨A,B,hK,D,t,G,hF⟩;revert a;change WC _ _ _ _ _ _
    cases C with
    | zero => exact nos hF
    | succ C =>
      rw [F_8_L1.eq_2] at hF;refine Rc 5 (Yl rfl (yle rfl underlying33 (F.oh hH D)) (Ro 3 (Wc rfl hF ?_ ?_)))
      · intro hF;refine Rc 9 ?_;have ⟨J,g,hF⟩:=bsome hF;refine Ye rfl (yix rfl underlying33 cn_2 (F.oh hH D) g) ?_;rintro _ ⟨l,x,_,rfl,p,rfl,U⟩;refine Yl rfl (ylc 0 rfl ag_2 U rfl rfl) ?_;have ⟨C0,O,hF⟩:=bsome hF;refine Ye rfl (yio rfl underlying33 cn_2 G O) ?_;rintro _ ⟨m,y,rfl,L,M,V⟩;have Z:=M;obtain rfl:=M;refine Ef rfl (eff_store_own (c:=(cInt .i64)) (us':=[.i J]) (y':=J) 0 _ rfl rfl rfl G L O rfl cn_2 rfl Z V rfl rfl rfl (fun k h => absurd h.2 (Nat.not_lt_zero k))) ?_;rintro _ B0 ⟨e,d⟩;have ⟨X,v⟩:=Eu D e (by have:=T _ L;omega);refine Ro 9 ?_;intro a hK;exact ⟨C,nr,(wrap .i64 (A + 1)),((B.set (A).toNat J)),hK.sub rfl,X,(by omega),d,hF⟩
      · intro hF;refine Rc 12 ?_;cases szt hF;exact Ne rfl rfl ⟨_,rfl,_,rfl,ownR.base G (by omega),D⟩
def F_31 (n:Nat) (a0:S_Pin):Option S_Pin:=(some a0)
theorem W_31 {A:S_Pin} {r:S_Pin} (hF:F_31 n A = some r) :
    Calls prog 151 [.agg #[.string A.Name,.i A.Dir,.i A.Cap,.bool A.Clock]].toArray w (Ret fun u J => u = .agg #[.string r.Name,.i r.Dir,.i r.Cap,.bool r.Clock]∧Ext w J):=by
  refine calls_ofD func151 rfl ntmps151 ?_;have T:=Ext.refl w;unfold F_31 at hF;refine Rc 2 (Ef rfl (eff_box rfl rfl) ?_);rintro _ J ⟨N,rfl,o,p,c,B⟩;have B:Box J N [.string A.Name,.i A.Dir,.i A.Cap,.bool A.Clock] 215:=B;have ⟨b,A0⟩:=Et T c;refine Ef rfl (eff_alloc rfl zn_82) ?_;rintro _ C0 ⟨K,rfl,j,k,L,C⟩;have ⟨U,q⟩:=Et b L;have B:=B.ext L;refine Ro 4 (Ef rfl (eff_alloc rfl zn_82) ?_);rintro _ B0 ⟨E,rfl,l,m,F,D⟩;have ⟨V,s⟩:=Et U F;have B:=B.ext F;have C:=C.ext F;refine Ro 4 (Yl rfl (yfa rfl fo_215_0) (Yl rfl (ylb rfl ag_9 B rfl) (Yl rfl (yfa rfl fo_82_0) (Ef rfl (est rfl D cn_9 rfl rfl) ?_))));rintro _ e ⟨G,O⟩;have ⟨W,t⟩:=Eu V G (by omega);have B:=B.upd G (by omega);have C:=C.upd G (by omega);have D:Box e E [.string A.Name,.i 0,.i 0,.bool false] 82:=O;refine Ro 4 (Yl rfl (yfa rfl fo_215_1) (Yl rfl (ylb rfl ag_2 B rfl) (Yl rfl (yfa rfl fo_82_1) (Ef rfl (est rfl D cn_2 rfl rfl) ?_))));rintro _ f ⟨H,P⟩;have ⟨X,v⟩:=Eu W H (by omega);have B:=B.upd H (by omega);have C:=C.upd H (by omega);have D:Box f E [.string A.Name,.i A.Dir,.i 0,.bool false] 82:=P;refine Ro 4 (Yl rfl (yfa rfl fo_215_2) (Yl rfl (ylb rfl ag_2 B rfl) (Yl rfl (yfa rfl fo_82_2) (Ef rfl (est rfl D cn_2 rfl rfl) ?_))));rintro _ g ⟨I,Q⟩;have ⟨Y,x⟩:=Eu X I (by omega);have B:=B.upd I (by omega);have C:=C.upd I (by omega);have D:Box g E [.string A.Name,.i A.Dir,.i A.Cap,.bool false] 82:=Q;refine Ro 4 (Yl rfl (yfa rfl fo_215_3) (Yl rfl (ylb rfl ag_4 B rfl) (Yl rfl (yfa rfl fo_82_3) (Ef rfl (est rfl D cn_4 rfl rfl) ?_))));rintro _ h ⟨M,R⟩;have ⟨Z,y⟩:=Eu Y M (by omega);have C:=C.upd M (by omega);have D:Box h E [.string A.Name,.i A.Dir,.i A.Cap,.bool A.Clock] 82:=R;refine Ro 4 (Yl rfl (ynb rfl ag_82 D cn_82) (Ef rfl (est rfl C cn_82 rfl rfl) ?_));rintro _ i ⟨d,S⟩;have ⟨a,z⟩:=Eu Z d (by omega);have C:Box i K [.string A.Name,.i A.Dir,.i A.Cap,.bool A.Clock] 82:=S;refine Ro 3 ?_;obtain rfl:=(szs hF);exact NX.end (rs:=[.cell 2 82]) (vs:=[.agg #[.string A.Name,.i A.Dir,.i A.Cap,.bool A.Clock]]) rfl ⟨⟨K,rfl,box_load ag_82 cn_82 C⟩,trivial⟩ ⟨_,rfl,rfl,a⟩
def F_1f_L1 (n:Nat) (a0:List S_Pin) (k0:Int→(List S_Pin)→Option (List S_Pin)):Nat→Int→(List S_Pin)→Option (List S_Pin)
  | 0, _, _=>none
  | m + 1, i19, l20=>(bif decide (i19 < (a0.length:Int)) then ((getI a0 i19).bind fun x22=>((F_31 n x22).bind fun r31=>((getI l20 i19).bind fun x37=>(F_1f_L1 n a0 k0 m (wrap .i64 (i19 + 1)) ((l20.set (i19).toNat r31)))))) else (k0 i19 l20))
def F_1f (n:Nat) (a0:List S_Pin):Option (List S_Pin):=((mkN ((a0.length:Int)) 40).bind fun n3=>(F_1f_L1 n a0 (fun i19 l20=>(some l20)) n 0 (List.replicate n3 ((S_Pin.mk ByteArray.empty 0 0 false)))))
theorem W_1f {I:List S_Pin} {r:List S_Pin} {K:Value} (hF:F_1f n I = some r) (hH:H ≤ w.heap.size) (J:slRep C_Pin w (Iv 0 H) I K) :
    Calls prog 129 [K].toArray w (Ret fun u T => ∃ R,u = R∧ownR C_Pin T w.heap.size (Iv 0 0) 82 r R∧Ext w T):=by
  refine calls_ofD func129 rfl ntmps129 ?_;have L:=Ext.refl w;unfold F_1f at hF;refine Rc 8 (Yl rfl (yle rfl underlying165 (J.oh hH L)) ?_);have ⟨p,d,hF⟩:=bsome hF;refine Ef rfl (eff_make (c:=C_Pin) (z:=(S_Pin.mk ByteArray.empty 0 0 false)) rfl underlying83 in_82 rfl rfl rfl d rfl rfl (fun _ => C_Pin_mk)) ?_;rintro S q ⟨U,O,v,y,m,i⟩;have ⟨Y,A0⟩:=Et L m;have V:=bd_of O;clear O;refine Ro 10 ?_;refine WC.loopD (fun E a wl => ∃ (A:Int) (B:List S_Pin),Kn 23 [(0,K),(3,S),(4,.i A)] a∧Ext w wl∧q.heap.size ≤ wl.heap.size∧ownR C_Pin wl (U) (Iv 0 0) 82 B S∧F_1f_L1 n I (fun A B => (some B)) E A B = some r) n ?_ ?_
  · intro a hK;exact ⟨0,(List.replicate p ((S_Pin.mk ByteArray.empty 0 0 false))),hK.sub rfl,Y,Nat.le_refl _,i,hF⟩
  · rintro E a H0 ⟨A,B,hK,F,B0,D,hF⟩;revert a;change WC _ _ _ _ _ _
    cases E with
    | zero => exact nos hF
    | succ E =>
      rw [F_1f_L1.eq_2] at hF;refine Rc 5 (Yl rfl (yle rfl underlying165 (J.oh hH F)) (Ro 3 (Wc rfl hF ?_ ?_)))
      · intro hF;refine Rc 9 ?_;have ⟨G,o,hF⟩:=bsome hF;refine Ye rfl (yix rfl underlying165 cn_215 (J.oh hH F) o) ?_;rintro _ ⟨s,E0,F0,rfl,x,e,W⟩;obtain rfl:=C_Pin_open e;refine Yl rfl (yln (us:=[.string G.Name,.i G.Dir,.i G.Cap,.bool G.Clock]) rfl ag_215 W cn_215) ?_;have ⟨C,f,hF⟩:=bsome hF;refine Ef rfl (eca rfl gf_151 (W_31 f :)) ?_;rintro _ I0 ⟨rfl,P⟩;have ⟨Z,C0⟩:=Et F P;have D:=D.ext P;have ⟨K0,Q,hF⟩:=bsome hF;refine Ye rfl (yio rfl underlying83 cn_82 D Q) ?_;rintro _ ⟨t,G0,rfl,M,N,X⟩;have g:=N;obtain rfl:=C_Pin_open N;refine Ef rfl (eff_store_own (c:=C_Pin) (us':=[.string C.Name,.i C.Dir,.i C.Cap,.bool C.Clock]) (y':=C) 0 _ rfl rfl rfl D M Q rfl cn_82 rfl g X rfl rfl C_Pin_mk (fun k h => absurd h.2 (Nat.not_lt_zero k))) ?_;rintro _ J0 ⟨l,j⟩;have ⟨b,D0⟩:=Eu Z l (by have:=V _ M;omega);refine Ro 9 ?_;intro a hK;exact ⟨E,nr,(wrap .i64 (A + 1)),((B.set (A).toNat C)),hK.sub rfl,b,(by omega),j,hF⟩
      · intro hF;refine Rc 12 ?_;cases szt hF;exact Ne rfl rfl ⟨_,rfl,_,rfl,ownR.base D (by omega),F⟩
def F_2q (n:Nat) (a0:S_Table):Option S_Table:=((F_8 n a0.Slews).bind fun r28=>((F_8 n a0.Loads).bind fun r43=>((F_8 n a0.Values).bind fun r58=>(some ((S_Table.mk r28 r43 r58))))))
theorem W_2q {O:S_Table} {r:S_Table} {a b c:Value} (hF:F_2q n O = some r) (hH:H ≤ w.heap.size) (l:slRep (cInt .i64) w (Iv 0 H) O.Slews a) (m:slRep (cInt .i64) w (Iv 0 H) O.Loads b) (o:slRep (cInt .i64) w (Iv 0 H) O.Values c) :
    Calls prog 175 [.agg #[a,b,c]].toArray w (Ret fun u X => ∃ T U V,u = .agg #[T,U,V]∧ownR (cInt .i64) X w.heap.size (Iv 0 0) 2 r.Slews T∧ownR (cInt .i64) X w.heap.size (Iv 0 0) 2 r.Loads U∧ownR (cInt .i64) X w.heap.size (Iv 0 0) 2 r.Values V∧(∀ g q,U.ownBlock = some g → T.ownBlock = some q → g ≠ q)∧(∀ g q,V.ownBlock = some g → T.ownBlock = some q → g ≠ q)∧(∀ g q,V.ownBlock = some g → U.ownBlock = some q → g ≠ q)∧Ext w X):=by
  refine calls_ofD func175 rfl ntmps175 ?_;have x:=Ext.refl w;unfold F_2q at hF;refine Rc 2 (Ef rfl (eff_box rfl rfl) ?_);rintro _ N0 ⟨k,rfl,S0,T0,F0,A⟩;have A:Box N0 k [a,b,c] 242:=A;have ⟨y,U0⟩:=Et x F0;refine Ef rfl (eff_alloc rfl zn_231) ?_;rintro _ h0 ⟨e,rfl,O0,P0,j,B⟩;have ⟨z,V0⟩:=Et y j;have A:=A.ext j;refine Ro 4 (Ef rfl (eff_alloc rfl zn_231) ?_);rintro _ i0 ⟨Y,rfl,Q0,R0,Z,D⟩;have ⟨f,W0⟩:=Et z Z;have A:=A.ext Z;have B:=B.ext Z;refine Ro 4 (Yl rfl (yfa rfl fo_242_0) (Yl rfl (ylb rfl ag_33 A rfl) ?_));have ⟨e0,G0,hF⟩:=bsome hF;refine Ef rfl (eca rfl gf_8 (W_8 G0 (by omega) (l.oh hH f) :)) ?_;rintro N j0 ⟨_,rfl,C,S⟩;have ⟨A0,X0⟩:=Et f S;have A:=A.ext S;have B:=B.ext S;have D:=D.ext S;have G:=ownR.blk C;refine Yl rfl (yfa rfl fo_231_0) (Ef rfl (eff_store1 rfl rfl rfl D cn_33 C.cells C.one rfl) ?_);rintro _ J0 ⟨Q,p⟩;have ⟨h,Y0⟩:=Eu A0 Q (by omega);have A:=A.upd Q (by omega);have B:=B.upd Q (by omega);have C:=C.upd Q (Nb.of G (by omega));have D:Box J0 Y [N,.slice none 0 0,.slice none 0 0] 231:=p;refine Ro 4 (Yl rfl (yfa rfl fo_242_1) (Yl rfl (ylb rfl ag_33 A rfl) ?_));have ⟨f0,H0,hF⟩:=bsome hF;refine Ef rfl (eca rfl gf_8 (W_8 H0 (by omega) (m.oh hH h) :)) ?_;rintro W k0 ⟨_,rfl,E,L⟩;have ⟨B0,Z0⟩:=Et h L;have A:=A.ext L;have B:=B.ext L;have D:=D.ext L;have C:=C.ext L;have I:=ownR.blk E;refine Yl rfl (yfa rfl fo_231_1) (Ef rfl (eff_store1 rfl rfl rfl D cn_33 E.cells E.one rfl) ?_);rintro _ K0 ⟨J,s⟩;have ⟨i,a0⟩:=Eu B0 J (by omega);have A:=A.upd J (by omega);have B:=B.upd J (by omega);have C:=C.upd J (Nb.of G (by omega));have E:=E.upd J (Nb.of I (by omega));have D:Box K0 Y [N,W,.slice none 0 0] 231:=s;refine Ro 4 (Yl rfl (yfa rfl fo_242_2) (Yl rfl (ylb rfl ag_33 A rfl) ?_));have ⟨g0,I0,hF⟩:=bsome hF;refine Ef rfl (eca rfl gf_8 (W_8 I0 (by omega) (o.oh hH i) :)) ?_;rintro d l0 ⟨_,rfl,F,M⟩;have ⟨C0,b0⟩:=Et i M;have B:=B.ext M;have D:=D.ext M;have C:=C.ext M;have E:=E.ext M;have P:=ownR.blk F;refine Yl rfl (yfa rfl fo_231_2) (Ef rfl (eff_store1 rfl rfl rfl D cn_33 F.cells F.one rfl) ?_);rintro _ L0 ⟨K,t⟩;have ⟨D0,c0⟩:=Eu C0 K (by omega);have B:=B.upd K (by omega);have C:=C.upd K (Nb.of G (by omega));have E:=E.upd K (Nb.of I (by omega));have F:=F.upd K (Nb.of P (by omega));have D:Box L0 Y [N,W,d] 231:=t;refine Ro 4 (Yl rfl (ynb rfl ag_231 D cn_231) (Ef rfl (est rfl B cn_231 (allc_cons C.one (allc_cons E.one (allc_cons F.one allc_nil))) rfl) ?_));rintro _ M0 ⟨R,v⟩;have ⟨E0,d0⟩:=Eu D0 R (by omega);have C:=C.upd R (Nb.of G (by omega));have E:=E.upd R (Nb.of I (by omega));have F:=F.upd R (Nb.of P (by omega));have B:Box M0 e [N,W,d] 231:=v;refine Ro 3 ?_;cases szt hF;exact NX.end (rs:=[.cell 2 231]) (vs:=[.agg #[N,W,d]]) rfl ⟨⟨e,rfl,box_load ag_231 cn_231 B⟩,trivial⟩ ⟨_,rfl,_,_,_,rfl,ownR.base C (by omega),ownR.base E (by omega),ownR.base F (by omega),(No.of I G (by omega)),(No.of P G (by omega)),(No.of P I (by omega)),E0⟩
def F_0j_L1 (n:Nat) (a0:List S_Table) (k0:Int→(List S_Table)→Option (List S_Table)):Nat→Int→(List S_Table)→Option (List S_Table)
  | 0, _, _=>none
  | m + 1, i19, l20=>(bif decide (i19 < (a0.length:Int)) then ((getI a0 i19).bind fun x22=>((F_2q n x22).bind fun r37=>((getI l20 i19).bind fun x58=>(F_0j_L1 n a0 k0 m (wrap .i64 (i19 + 1)) ((l20.set (i19).toNat r37)))))) else (k0 i19 l20))
def F_0j (n:Nat) (a0:List S_Table):Option (List S_Table):=((mkN ((a0.length:Int)) 72).bind fun n3=>(F_0j_L1 n a0 (fun i19 l20=>(some l20)) n 0 (List.replicate n3 ((S_Table.mk (([]:List Int)) (([]:List Int)) (([]:List Int)))))))
theorem W_0j {G:List S_Table} {r:List S_Table} {Q:Value} (hF:F_0j n G = some r) (hH:H ≤ w.heap.size) (I:slRep C_Table w (Iv 0 H) G Q) :
    Calls prog 166 [Q].toArray w (Ret fun u S => ∃ P,u = P∧ownR C_Table S w.heap.size (SX w.heap.size S.heap.size P) 231 r P∧Ext w S):=by
  refine calls_ofD func166 rfl ntmps166 ?_;have U:=Ext.refl w;unfold F_0j at hF;refine Rc 8 (Yl rfl (yle rfl underlying217 (I.oh hH U)) ?_);have ⟨A0,j,hF⟩:=bsome hF;refine Ef rfl (eff_make (c:=C_Table) (z:=(S_Table.mk (([]:List Int)) (([]:List Int)) (([]:List Int)))) rfl underlying72 in_231 rfl rfl rfl j rfl rfl (fun _ => C_Table_mk (slRep.nil _ _ _) (slRep.nil _ _ _) (slRep.nil _ _ _))) ?_;rintro R I0 ⟨T,O,O0,W0,x,K⟩;have ⟨f,X0⟩:=Et U x;have K:=ownR.toN K O;have D:=bd_of O;clear O;refine Ro 10 ?_;refine WC.loopD (fun C a wl => ∃ (A:Int) (B:List S_Table),Kn 23 [(0,Q),(3,R),(4,.i A)] a∧Ext w wl∧I0.heap.size ≤ wl.heap.size∧ownR C_Table wl (T) (SX (T) wl.heap.size R) 231 B R∧F_0j_L1 n G (fun A B => (some B)) C A B = some r) n ?_ ?_
  · intro a hK;exact ⟨0,(List.replicate A0 ((S_Table.mk (([]:List Int)) (([]:List Int)) (([]:List Int))))),hK.sub rfl,f,Nat.le_refl _,(ownR.wideN K (by omega)),hF⟩
  · rintro C a h0 ⟨A,B,hK,E,Y0,F,hF⟩;revert a;change WC _ _ _ _ _ _
    cases C with
    | zero => exact nos hF
    | succ C =>
      rw [F_0j_L1.eq_2] at hF;refine Rc 5 (Yl rfl (yle rfl underlying217 (I.oh hH E)) (Ro 3 (Wc rfl hF ?_ ?_)))
      · intro hF;refine Rc 9 ?_;have ⟨j0,y,hF⟩:=bsome hF;refine Ye rfl (yix rfl underlying217 cn_242 (I.oh hH E) y) ?_;rintro _ ⟨J0,b0,c0,rfl,P0,l,b⟩;obtain ⟨B0,C0,D0,rfl,p,q,s⟩:=C_Table_open l;refine Yl rfl (yln (us:=[B0,C0,D0]) rfl ag_242 b cn_242) ?_;have ⟨Z,m,hF⟩:=bsome hF;refine Ef rfl (eca rfl gf_175 (W_2q m (by omega) p q s :)) ?_;rintro _ H0 ⟨E0,F0,G0,rfl,L,M,N,Q0,R0,S0,X⟩;have ⟨g,Z0⟩:=Et E X;have F:=F.extN X (by omega);have L0:=ownR.blk L;have M0:=ownR.blk M;have N0:=ownR.blk N;have ⟨k0,Y,hF⟩:=bsome hF;have W:=ownR.wideN (hi':=H0.heap.size) F (by omega);refine Ye rfl (yio rfl underlying72 cn_231 W Y) ?_;rintro _ ⟨K0,d0,rfl,J,V,d⟩;have o:=V;obtain ⟨e0,f0,g0,rfl,T0,U0,V0⟩:=C_Table_open V;refine Ef rfl (eff_store_own (c:=C_Table) (us':=[E0,F0,G0]) (y':=Z) 0 _ rfl rfl rfl W J Y rfl cn_231 (allc_cons L.one (allc_cons M.one (allc_cons N.one allc_nil))) o d rfl rfl (C_Table_mk ((ownR.slf L nr nr).mono (fun k h => ⟨by have:=h.1;omega,by have:=h.2;omega,fun e => by have:=D k e;have:=h.1;have:=h.2;omega⟩) (fun _ _ => rfl)) ((ownR.slf M nr nr).mono (fun k h => ⟨by have:=h.1;omega,by have:=h.2;omega,fun e => by have:=D k e;have:=h.1;have:=h.2;omega⟩) (fun _ _ => rfl)) ((ownR.slf N nr nr).mono (fun k h => ⟨by have:=h.1;omega,by have:=h.2;omega,fun e => by have:=D k e;have:=h.1;have:=h.2;omega⟩) (fun _ _ => rfl))) (fun k h e => h.2.2 (e ▸ J))) ?_;rintro _ i0 ⟨v,t⟩;have ⟨i,a0⟩:=Eu g v (by have:=D _ J;omega);refine Ro 9 ?_;intro a hK;exact ⟨C,nr,(wrap .i64 (A + 1)),((B.set (A).toNat Z)),hK.sub rfl,i,(by omega),(ownR.wideN t (by omega)),hF⟩
      · intro hF;refine Rc 12 ?_;cases szt hF;exact Ne rfl rfl ⟨_,rfl,_,rfl,ownR.baseN (ownR.wideN F (by omega)) (by omega),E⟩
def F_2r (n:Nat) (a0:S_Arc):Option S_Arc:=((F_0j n a0.Delay).bind fun r46=>((F_0j n a0.Slew).bind fun r61=>(some ((S_Arc.mk a0.Kind a0.From a0.To a0.Sense r46 r61)))))
theorem W_2r {A:S_Arc} {r:S_Arc} {Y Z:Value} (hF:F_2r n A = some r) (hH:H ≤ w.heap.size) (h:slRep C_Table w (Iv 0 H) A.Delay Y) (i:slRep C_Table w (Iv 0 H) A.Slew Z) :
    Calls prog 152 [.agg #[.i A.Kind,.i A.From,.i A.To,.i A.Sense,Y,Z]].toArray w (Ret fun u I => ∃ O P,u = .agg #[.i r.Kind,.i r.From,.i r.To,.i r.Sense,O,P]∧ownR C_Table I w.heap.size (SX w.heap.size I.heap.size O) 231 r.Delay O∧ownR C_Table I w.heap.size (SX w.heap.size I.heap.size P) 231 r.Slew P∧(∀ g q,P.ownBlock = some g → O.ownBlock = some q → g ≠ q)∧Ext w I):=by
  refine calls_ofD func152 rfl ntmps152 ?_;have t:=Ext.refl w;unfold F_2r at hF;refine Rc 2 (Ef rfl (eff_box rfl rfl) ?_);rintro _ O0 ⟨f,rfl,V0,W0,G0,B⟩;have B:Box O0 f [.i A.Kind,.i A.From,.i A.To,.i A.Sense,Y,Z] 219:=B;have ⟨v,X0⟩:=Et t G0;refine Ef rfl (eff_alloc rfl zn_74) ?_;rintro _ l0 ⟨b,rfl,R0,S0,e,C⟩;have ⟨x,Y0⟩:=Et v e;have B:=B.ext e;refine Ro 4 (Ef rfl (eff_alloc rfl zn_74) ?_);rintro _ m0 ⟨G,rfl,T0,U0,S,D⟩;have ⟨y,Z0⟩:=Et x S;have B:=B.ext S;have C:=C.ext S;refine Ro 4 (Yl rfl (yfa rfl fo_219_0) (Yl rfl (ylb rfl ag_2 B rfl) (Yl rfl (yfa rfl fo_74_0) (Ef rfl (est rfl D cn_2 rfl rfl) ?_))));rintro _ J0 ⟨T,j⟩;have ⟨z,a0⟩:=Eu y T (by omega);have B:=B.upd T (by omega);have C:=C.upd T (by omega);have D:Box J0 G [.i A.Kind,.i 0,.i 0,.i 0,.slice none 0 0,.slice none 0 0] 74:=j;refine Ro 4 (Yl rfl (yfa rfl fo_219_1) (Yl rfl (ylb rfl ag_2 B rfl) (Yl rfl (yfa rfl fo_74_1) (Ef rfl (est rfl D cn_2 rfl rfl) ?_))));rintro _ K0 ⟨U,k⟩;have ⟨A0,b0⟩:=Eu z U (by omega);have B:=B.upd U (by omega);have C:=C.upd U (by omega);have D:Box K0 G [.i A.Kind,.i A.From,.i 0,.i 0,.slice none 0 0,.slice none 0 0] 74:=k;refine Ro 4 (Yl rfl (yfa rfl fo_219_2) (Yl rfl (ylb rfl ag_2 B rfl) (Yl rfl (yfa rfl fo_74_2) (Ef rfl (est rfl D cn_2 rfl rfl) ?_))));rintro _ L0 ⟨V,l⟩;have ⟨B0,c0⟩:=Eu A0 V (by omega);have B:=B.upd V (by omega);have C:=C.upd V (by omega);have D:Box L0 G [.i A.Kind,.i A.From,.i A.To,.i 0,.slice none 0 0,.slice none 0 0] 74:=l;refine Ro 4 (Yl rfl (yfa rfl fo_219_3) (Yl rfl (ylb rfl ag_2 B rfl) (Yl rfl (yfa rfl fo_74_3) (Ef rfl (est rfl D cn_2 rfl rfl) ?_))));rintro _ M0 ⟨W,m⟩;have ⟨c,d0⟩:=Eu B0 W (by omega);have B:=B.upd W (by omega);have C:=C.upd W (by omega);have D:Box M0 G [.i A.Kind,.i A.From,.i A.To,.i A.Sense,.slice none 0 0,.slice none 0 0] 74:=m;refine Ro 4 (Yl rfl (yfa rfl fo_219_4) (Yl rfl (ylb rfl ag_217 B rfl) ?_));have ⟨j0,H0,hF⟩:=bsome hF;refine Ef rfl (eca rfl gf_166 (W_0j H0 (by omega) (h.oh hH c) :)) ?_;rintro Q n0 ⟨_,rfl,E,M⟩;have ⟨C0,e0⟩:=Et c M;have B:=B.ext M;have C:=C.ext M;have D:=D.ext M;have J:=ownR.blk E;refine Yl rfl (yfa rfl fo_74_4) (Ef rfl (eff_store1 rfl rfl rfl D cn_72 (slRep.cells (ownR.slN E nr nr (by omega))) (slRep.one (ownR.slN E nr nr (by omega))) rfl) ?_);rintro _ N0 ⟨K,o⟩;have ⟨d,f0⟩:=Eu C0 K (by omega);have B:=B.upd K (by omega);have C:=C.upd K (by omega);have E:=E.updN K (Nb.of J (by omega)) (by omega);have D:Box N0 G [.i A.Kind,.i A.From,.i A.To,.i A.Sense,Q,.slice none 0 0] 74:=o;refine Ro 4 (Yl rfl (yfa rfl fo_219_5) (Yl rfl (ylb rfl ag_217 B rfl) ?_));have ⟨k0,I0,hF⟩:=bsome hF;refine Ef rfl (eca rfl gf_166 (W_0j I0 (by omega) (i.oh hH d) :)) ?_;rintro a o0 ⟨_,rfl,F,N⟩;have ⟨D0,g0⟩:=Et d N;have C:=C.ext N;have D:=D.ext N;have E:=E.extN N (by omega);have R:=ownR.blk F;refine Yl rfl (yfa rfl fo_74_5) (Ef rfl (eff_store1 rfl rfl rfl D cn_72 (slRep.cells (ownR.slN F nr nr (by omega))) (slRep.one (ownR.slN F nr nr (by omega))) rfl) ?_);rintro _ P0 ⟨L,p⟩;have ⟨E0,h0⟩:=Eu D0 L (by omega);have C:=C.upd L (by omega);have E:=E.updN L (Nb.of J (by omega)) (by omega);have F:=F.updN L (Nb.of R (by omega)) (by omega);have D:Box P0 G [.i A.Kind,.i A.From,.i A.To,.i A.Sense,Q,a] 74:=p;refine Ro 4 (Yl rfl (ynb rfl ag_74 D cn_74) (Ef rfl (est rfl C cn_74 (allc_cons rfl (allc_cons rfl (allc_cons rfl (allc_cons rfl (allc_cons (slRep.one (ownR.slN E nr nr (by omega))) (allc_cons (slRep.one (ownR.slN F nr nr (by omega))) allc_nil)))))) rfl) ?_));rintro _ Q0 ⟨X,s⟩;have ⟨F0,i0⟩:=Eu E0 X (by omega);have E:=E.updN X (Nb.of J (by omega)) (by omega);have F:=F.updN X (Nb.of R (by omega)) (by omega);have C:Box Q0 b [.i A.Kind,.i A.From,.i A.To,.i A.Sense,Q,a] 74:=s;refine Ro 3 ?_;cases szt hF;exact NX.end (rs:=[.cell 2 74]) (vs:=[.agg #[.i A.Kind,.i A.From,.i A.To,.i A.Sense,Q,a]]) rfl ⟨⟨b,rfl,box_load ag_74 cn_74 C⟩,trivial⟩ ⟨_,rfl,_,_,rfl,ownR.baseN (ownR.wideN E (by omega)) (by omega),ownR.baseN (ownR.wideN F (by omega)) (by omega),(No.of R J (by omega)),F0⟩
def F_1g_L1 (n:Nat) (a0:List S_Arc) (k0:Int→(List S_Arc)→Option (List S_Arc)):Nat→Int→(List S_Arc)→Option (List S_Arc)
  | 0, _, _=>none
  | m + 1, i19, l20=>(bif decide (i19 < (a0.length:Int)) then ((getI a0 i19).bind fun x22=>((F_2r n x22).bind fun r35=>((getI l20 i19).bind fun x50=>(F_1g_L1 n a0 k0 m (wrap .i64 (i19 + 1)) ((l20.set (i19).toNat r35)))))) else (k0 i19 l20))
def F_1g (n:Nat) (a0:List S_Arc):Option (List S_Arc):=((mkN ((a0.length:Int)) 80).bind fun n3=>(F_1g_L1 n a0 (fun i19 l20=>(some l20)) n 0 (List.replicate n3 ((S_Arc.mk 0 0 0 0 (([]:List S_Table)) (([]:List S_Table)))))))
theorem W_1g {I:List S_Arc} {r:List S_Arc} {R:Value} (hF:F_1g n I = some r) (hH:H ≤ w.heap.size) (J:slRep C_Arc w (Iv 0 H) I R) :
    Calls prog 130 [R].toArray w (Ret fun u T => ∃ Q,u = Q∧ownR C_Arc T w.heap.size (SX w.heap.size T.heap.size Q) 74 r Q∧Ext w T):=by
  refine calls_ofD func130 rfl ntmps130 ?_;have V:=Ext.refl w;unfold F_1g at hF;refine Rc 8 (Yl rfl (yle rfl underlying166 (J.oh hH V)) ?_);have ⟨y,j,hF⟩:=bsome hF;refine Ef rfl (eff_make (c:=C_Arc) (z:=(S_Arc.mk 0 0 0 0 (([]:List S_Table)) (([]:List S_Table)))) rfl underlying84 in_74 rfl rfl rfl j rfl rfl (fun _ => C_Arc_mk (slRep.nil _ _ _) (slRep.nil _ _ _))) ?_;rintro S F0 ⟨U,P,K0,P0,v,M⟩;have ⟨f,Q0⟩:=Et V v;have M:=ownR.toN M P;have K:=bd_of P;clear P;refine Ro 10 ?_;refine WC.loopD (fun D a wl => ∃ (A:Int) (B:List S_Arc),Kn 23 [(0,R),(3,S),(4,.i A)] a∧Ext w wl∧F0.heap.size ≤ wl.heap.size∧ownR C_Arc wl (U) (SX (U) wl.heap.size S) 74 B S∧F_1g_L1 n I (fun A B => (some B)) D A B = some r) n ?_ ?_
  · intro a hK;exact ⟨0,(List.replicate y ((S_Arc.mk 0 0 0 0 (([]:List S_Table)) (([]:List S_Table))))),hK.sub rfl,f,Nat.le_refl _,(ownR.wideN M (by omega)),hF⟩
  · rintro D a Z0 ⟨A,B,hK,E,R0,F,hF⟩;revert a;change WC _ _ _ _ _ _
    cases D with
    | zero => exact nos hF
    | succ D =>
      rw [F_1g_L1.eq_2] at hF;refine Rc 5 (Yl rfl (yle rfl underlying166 (J.oh hH E)) (Ro 3 (Wc rfl hF ?_ ?_)))
      · intro hF;refine Rc 9 ?_;have ⟨G,x,hF⟩:=bsome hF;refine Ye rfl (yix rfl underlying166 cn_219 (J.oh hH E) x) ?_;rintro _ ⟨G0,U0,V0,rfl,L0,l,b⟩;obtain ⟨A0,B0,rfl,p,q⟩:=C_Arc_open l;refine Yl rfl (yln (us:=[.i G.Kind,.i G.From,.i G.To,.i G.Sense,A0,B0]) rfl ag_219 b cn_219) ?_;have ⟨C,m,hF⟩:=bsome hF;refine Ef rfl (eca rfl gf_152 (W_2r m (by omega) p q :)) ?_;rintro _ E0 ⟨C0,D0,rfl,N,O,M0,Y⟩;have ⟨g,S0⟩:=Et E Y;have F:=F.extN Y (by omega);have I0:=ownR.blk N;have J0:=ownR.blk O;have ⟨b0,Z,hF⟩:=bsome hF;have X:=ownR.wideN (hi':=E0.heap.size) F (by omega);refine Ye rfl (yio rfl underlying84 cn_74 X Z) ?_;rintro _ ⟨H0,W0,rfl,L,W,d⟩;have o:=W;obtain ⟨X0,Y0,rfl,N0,O0⟩:=C_Arc_open W;refine Ef rfl (eff_store_own (c:=C_Arc) (us':=[.i C.Kind,.i C.From,.i C.To,.i C.Sense,C0,D0]) (y':=C) 0 _ rfl rfl rfl X L Z rfl cn_74 (allc_cons rfl (allc_cons rfl (allc_cons rfl (allc_cons rfl (allc_cons (slRep.one (ownR.slN N nr nr (by omega))) (allc_cons (slRep.one (ownR.slN O nr nr (by omega))) allc_nil)))))) o d rfl rfl (C_Arc_mk ((ownR.slN N nr nr (by omega)).mono (fun k h => ⟨by have:=h.1;omega,by have:=h.2;omega,fun e => by have:=K k e;have:=h.1;have:=h.2;omega⟩) (fun _ _ => rfl)) ((ownR.slN O nr nr (by omega)).mono (fun k h => ⟨by have:=h.1;omega,by have:=h.2;omega,fun e => by have:=K k e;have:=h.1;have:=h.2;omega⟩) (fun _ _ => rfl))) (fun k h e => h.2.2 (e ▸ L))) ?_;rintro _ a0 ⟨t,s⟩;have ⟨i,T0⟩:=Eu g t (by have:=K _ L;omega);refine Ro 9 ?_;intro a hK;exact ⟨D,nr,(wrap .i64 (A + 1)),((B.set (A).toNat C)),hK.sub rfl,i,(by omega),(ownR.wideN s (by omega)),hF⟩
      · intro hF;refine Rc 12 ?_;cases szt hF;exact Ne rfl rfl ⟨_,rfl,_,rfl,ownR.baseN (ownR.wideN F (by omega)) (by omega),E⟩
def F_2s (n:Nat) (a0:S_Cell):Option S_Cell:=((F_1f n a0.Pins).bind fun r38=>((F_1g n a0.Arcs).bind fun r53=>((F_8 n a0.Truth).bind fun r68=>(some ((S_Cell.mk a0.Name a0.Kind r38 r53 r68 a0.Leak a0.Energy))))))
theorem W_2s {A:S_Cell} {r:S_Cell} {f h i:Value} (hF:F_2s n A = some r) (hH:H ≤ w.heap.size) (s:slRep C_Pin w (Iv 0 H) A.Pins f) (t:slRep C_Arc w (Iv 0 H) A.Arcs h) (v:slRep (cInt .i64) w (Iv 0 H) A.Truth i) :
    Calls prog 101 [.agg #[.string A.Name,.i A.Kind,f,h,i,.i A.Leak,.i A.Energy]].toArray w (Ret fun u W => ∃ a U b,u = .agg #[.string r.Name,.i r.Kind,a,U,b,.i r.Leak,.i r.Energy]∧ownR C_Pin W w.heap.size (Iv 0 0) 82 r.Pins a∧ownR C_Arc W w.heap.size (SX w.heap.size W.heap.size U) 74 r.Arcs U∧ownR (cInt .i64) W w.heap.size (Iv 0 0) 2 r.Truth b∧(∀ g q,U.ownBlock = some g → a.ownBlock = some q → g ≠ q)∧(∀ g q,b.ownBlock = some g → a.ownBlock = some q → g ≠ q)∧(∀ g q,b.ownBlock = some g → U.ownBlock = some q → g ≠ q)∧Ext w W):=by
  refine calls_ofD func101 rfl ntmps101 ?_;have F0:=Ext.refl w;unfold F_2s at hF;refine Rc 2 (Ef rfl (eff_box rfl rfl) ?_);rintro _ a0 ⟨p,rfl,i0,j0,R0,B⟩;have B:Box a0 p [.string A.Name,.i A.Kind,f,h,i,.i A.Leak,.i A.Energy] 168:=B;have ⟨G0,k0⟩:=Et F0 R0;refine Ef rfl (eff_alloc rfl zn_86) ?_;rintro _ B1 ⟨j,rfl,e0,f0,o,C⟩;have ⟨H0,l0⟩:=Et G0 o;have B:=B.ext o;refine Ro 4 (Ef rfl (eff_alloc rfl zn_86) ?_);rintro _ C1 ⟨J,rfl,g0,h0,c,D⟩;have ⟨I0,m0⟩:=Et H0 c;have B:=B.ext c;have C:=C.ext c;refine Ro 4 (Yl rfl (yfa rfl fo_168_0) (Yl rfl (ylb rfl ag_9 B rfl) (Yl rfl (yfa rfl fo_86_0) (Ef rfl (est rfl D cn_9 rfl rfl) ?_))));rintro _ V0 ⟨d,x⟩;have ⟨J0,n0⟩:=Eu I0 d (by omega);have B:=B.upd d (by omega);have C:=C.upd d (by omega);have D:Box V0 J [.string A.Name,.i 0,.slice none 0 0,.slice none 0 0,.slice none 0 0,.i 0,.i 0] 86:=x;refine Ro 4 (Yl rfl (yfa rfl fo_168_1) (Yl rfl (ylb rfl ag_2 B rfl) (Yl rfl (yfa rfl fo_86_1) (Ef rfl (est rfl D cn_2 rfl rfl) ?_))));rintro _ W0 ⟨e,y⟩;have ⟨k,o0⟩:=Eu J0 e (by omega);have B:=B.upd e (by omega);have C:=C.upd e (by omega);have D:Box W0 J [.string A.Name,.i A.Kind,.slice none 0 0,.slice none 0 0,.slice none 0 0,.i 0,.i 0] 86:=y;refine Ro 4 (Yl rfl (yfa rfl fo_168_2) (Yl rfl (ylb rfl ag_165 B rfl) ?_));have ⟨y0,S0,hF⟩:=bsome hF;refine Ef rfl (eca rfl gf_129 (W_1f S0 (by omega) (s.oh hH k) :)) ?_;rintro L D1 ⟨_,rfl,E,Z⟩;have ⟨K0,p0⟩:=Et k Z;have B:=B.ext Z;have C:=C.ext Z;have D:=D.ext Z;have I:=ownR.blk E;refine Yl rfl (yfa rfl fo_86_2) (Ef rfl (eff_store1 rfl rfl rfl D cn_83 E.cells E.one rfl) ?_);rintro _ X0 ⟨X,z⟩;have ⟨l,q0⟩:=Eu K0 X (by omega);have B:=B.upd X (by omega);have C:=C.upd X (by omega);have E:=E.upd X (Nb.of I (by omega));have D:Box X0 J [.string A.Name,.i A.Kind,L,.slice none 0 0,.slice none 0 0,.i 0,.i 0] 86:=z;refine Ro 4 (Yl rfl (yfa rfl fo_168_3) (Yl rfl (ylb rfl ag_166 B rfl) ?_));have ⟨z0,T0,hF⟩:=bsome hF;refine Ef rfl (eca rfl gf_130 (W_1g T0 (by omega) (t.oh hH l) :)) ?_;rintro Q E1 ⟨_,rfl,F,T⟩;have ⟨L0,r0⟩:=Et l T;have B:=B.ext T;have C:=C.ext T;have D:=D.ext T;have E:=E.ext T;have K:=ownR.blk F;refine Yl rfl (yfa rfl fo_86_3) (Ef rfl (eff_store1 rfl rfl rfl D cn_84 (slRep.cells (ownR.slN F nr nr (by omega))) (slRep.one (ownR.slN F nr nr (by omega))) rfl) ?_);rintro _ Y0 ⟨R,A0⟩;have ⟨m,s0⟩:=Eu L0 R (by omega);have B:=B.upd R (by omega);have C:=C.upd R (by omega);have E:=E.upd R (Nb.of I (by omega));have F:=F.updN R (Nb.of K (by omega)) (by omega);have D:Box Y0 J [.string A.Name,.i A.Kind,L,Q,.slice none 0 0,.i 0,.i 0] 86:=A0;refine Ro 4 (Yl rfl (yfa rfl fo_168_4) (Yl rfl (ylb rfl ag_33 B rfl) ?_));have ⟨A1,U0,hF⟩:=bsome hF;refine Ef rfl (eca rfl gf_8 (W_8 U0 (by omega) (v.oh hH m) :)) ?_;rintro V F1 ⟨_,rfl,G,P⟩;have ⟨M0,t0⟩:=Et m P;have B:=B.ext P;have C:=C.ext P;have D:=D.ext P;have E:=E.ext P;have F:=F.extN P (by omega);have M:=ownR.blk G;refine Yl rfl (yfa rfl fo_86_4) (Ef rfl (eff_store1 rfl rfl rfl D cn_33 G.cells G.one rfl) ?_);rintro _ Z0 ⟨N,B0⟩;have ⟨N0,u0⟩:=Eu M0 N (by omega);have B:=B.upd N (by omega);have C:=C.upd N (by omega);have E:=E.upd N (Nb.of I (by omega));have F:=F.updN N (Nb.of K (by omega)) (by omega);have G:=G.upd N (Nb.of M (by omega));have D:Box Z0 J [.string A.Name,.i A.Kind,L,Q,V,.i 0,.i 0] 86:=B0;refine Ro 4 (Yl rfl (yfa rfl fo_168_5) (Yl rfl (ylb rfl ag_2 B rfl) (Yl rfl (yfa rfl fo_86_5) (Ef rfl (est rfl D cn_2 rfl rfl) ?_))));rintro _ b0 ⟨O,C0⟩;have ⟨O0,v0⟩:=Eu N0 O (by omega);have B:=B.upd O (by omega);have C:=C.upd O (by omega);have E:=E.upd O (Nb.of I (by omega));have F:=F.updN O (Nb.of K (by omega)) (by omega);have G:=G.upd O (Nb.of M (by omega));have D:Box b0 J [.string A.Name,.i A.Kind,L,Q,V,.i A.Leak,.i 0] 86:=C0;refine Ro 4 (Yl rfl (yfa rfl fo_168_6) (Yl rfl (ylb rfl ag_2 B rfl) (Yl rfl (yfa rfl fo_86_6) (Ef rfl (est rfl D cn_2 rfl rfl) ?_))));rintro _ c0 ⟨S,D0⟩;have ⟨P0,w0⟩:=Eu O0 S (by omega);have C:=C.upd S (by omega);have E:=E.upd S (Nb.of I (by omega));have F:=F.updN S (Nb.of K (by omega)) (by omega);have G:=G.upd S (Nb.of M (by omega));have D:Box c0 J [.string A.Name,.i A.Kind,L,Q,V,.i A.Leak,.i A.Energy] 86:=D0;refine Ro 4 (Yl rfl (ynb rfl ag_86 D cn_86) (Ef rfl (est rfl C cn_86 (allc_cons rfl (allc_cons rfl (allc_cons E.one (allc_cons (slRep.one (ownR.slN F nr nr (by omega))) (allc_cons G.one (allc_cons rfl (allc_cons rfl allc_nil))))))) rfl) ?_));rintro _ d0 ⟨Y,E0⟩;have ⟨Q0,x0⟩:=Eu P0 Y (by omega);have E:=E.upd Y (Nb.of I (by omega));have F:=F.updN Y (Nb.of K (by omega)) (by omega);have G:=G.upd Y (Nb.of M (by omega));have C:Box d0 j [.string A.Name,.i A.Kind,L,Q,V,.i A.Leak,.i A.Energy] 86:=E0;refine Ro 3 ?_;cases szt hF;exact NX.end (rs:=[.cell 2 86]) (vs:=[.agg #[.string A.Name,.i A.Kind,L,Q,V,.i A.Leak,.i A.Energy]]) rfl ⟨⟨j,rfl,box_load ag_86 cn_86 C⟩,trivial⟩ ⟨_,rfl,_,_,_,rfl,ownR.base E (by omega),ownR.baseN (ownR.wideN F (by omega)) (by omega),ownR.base G (by omega),(No.of K I (by omega)),(No.of M I (by omega)),(No.of M K (by omega)),Q0⟩
def F_1h_L1 (n:Nat) (a0:List S_Cell) (k0:Int→(List S_Cell)→Option (List S_Cell)):Nat→Int→(List S_Cell)→Option (List S_Cell)
  | 0, _, _=>none
  | m + 1, i19, l20=>(bif decide (i19 < (a0.length:Int)) then ((getI a0 i19).bind fun x22=>((F_2s n x22).bind fun r37=>((getI l20 i19).bind fun x58=>(F_1h_L1 n a0 k0 m (wrap .i64 (i19 + 1)) ((l20.set (i19).toNat r37)))))) else (k0 i19 l20))
def F_1h (n:Nat) (a0:List S_Cell):Option (List S_Cell):=((mkN ((a0.length:Int)) 112).bind fun n3=>(F_1h_L1 n a0 (fun i19 l20=>(some l20)) n 0 (List.replicate n3 ((S_Cell.mk ByteArray.empty 0 (([]:List S_Pin)) (([]:List S_Arc)) (([]:List Int)) 0 0)))))
theorem W_1h {J:List S_Cell} {r:List S_Cell} {S:Value} (hF:F_1h n J = some r) (hH:H ≤ w.heap.size) (K:slRep C_Cell w (Iv 0 H) J S) :
    Calls prog 66 [S].toArray w (Ret fun u U => ∃ R,u = R∧ownR C_Cell U w.heap.size (SX w.heap.size U.heap.size R) 86 r R∧Ext w U):=by
  refine calls_ofD func66 rfl ntmps66 ?_;have W:=Ext.refl w;unfold F_1h at hF;refine Rc 8 (Yl rfl (yle rfl underlying22 (K.oh hH W)) ?_);have ⟨B0,l,hF⟩:=bsome hF;refine Ef rfl (eff_make (c:=C_Cell) (z:=(S_Cell.mk ByteArray.empty 0 (([]:List S_Pin)) (([]:List S_Arc)) (([]:List Int)) 0 0)) rfl underlying37 in_86 rfl rfl rfl l rfl rfl (fun _ => C_Cell_mk (slRep.nil _ _ _) (slRep.nil _ _ _) (slRep.nil _ _ _))) ?_;rintro T J0 ⟨V,Q,P0,X0,y,M⟩;have ⟨g,Y0⟩:=Et W y;have M:=ownR.toN M Q;have E:=bd_of Q;clear Q;refine Ro 10 ?_;refine WC.loopD (fun D a wl => ∃ (A:Int) (B:List S_Cell),Kn 23 [(0,S),(3,T),(4,.i A)] a∧Ext w wl∧J0.heap.size ≤ wl.heap.size∧ownR C_Cell wl (V) (SX (V) wl.heap.size T) 86 B T∧F_1h_L1 n J (fun A B => (some B)) D A B = some r) n ?_ ?_
  · intro a hK;exact ⟨0,(List.replicate B0 ((S_Cell.mk ByteArray.empty 0 (([]:List S_Pin)) (([]:List S_Arc)) (([]:List Int)) 0 0))),hK.sub rfl,g,Nat.le_refl _,(ownR.wideN M (by omega)),hF⟩
  · rintro D a i0 ⟨A,B,hK,F,Z0,G,hF⟩;revert a;change WC _ _ _ _ _ _
    cases D with
    | zero => exact nos hF
    | succ D =>
      rw [F_1h_L1.eq_2] at hF;refine Rc 5 (Yl rfl (yle rfl underlying22 (K.oh hH F)) (Ro 3 (Wc rfl hF ?_ ?_)))
      · intro hF;refine Rc 9 ?_;have ⟨I,A0,hF⟩:=bsome hF;refine Ye rfl (yix rfl underlying22 cn_168 (K.oh hH F) A0) ?_;rintro _ ⟨K0,c0,d0,rfl,Q0,m,d⟩;obtain ⟨C0,D0,E0,rfl,q,s,t⟩:=C_Cell_open m;refine Yl rfl (yln (us:=[.string I.Name,.i I.Kind,C0,D0,E0,.i I.Leak,.i I.Energy]) rfl ag_168 d cn_168) ?_;have ⟨C,o,hF⟩:=bsome hF;refine Ef rfl (eca rfl gf_101 (W_2s o (by omega) q s t :)) ?_;rintro _ I0 ⟨F0,G0,H0,rfl,N,O,P,R0,S0,T0,Z⟩;have ⟨i,a0⟩:=Et F Z;have G:=G.extN Z (by omega);have M0:=ownR.blk N;have N0:=ownR.blk O;have O0:=ownR.blk P;have ⟨k0,b,hF⟩:=bsome hF;have Y:=ownR.wideN (hi':=I0.heap.size) G (by omega);refine Ye rfl (yio rfl underlying37 cn_86 Y b) ?_;rintro _ ⟨L0,e0,rfl,L,X,f⟩;have p:=X;obtain ⟨f0,g0,h0,rfl,U0,V0,W0⟩:=C_Cell_open X;refine Ef rfl (eff_store_own (c:=C_Cell) (us':=[.string C.Name,.i C.Kind,F0,G0,H0,.i C.Leak,.i C.Energy]) (y':=C) 0 _ rfl rfl rfl Y L b rfl cn_86 (allc_cons rfl (allc_cons rfl (allc_cons N.one (allc_cons (slRep.one (ownR.slN O nr nr (by omega))) (allc_cons P.one (allc_cons rfl (allc_cons rfl allc_nil))))))) p f rfl rfl (C_Cell_mk ((ownR.slf N nr nr).mono (fun k h => ⟨by have:=h.1;omega,by have:=h.2;omega,fun e => by have:=E k e;have:=h.1;have:=h.2;omega⟩) (fun _ _ => rfl)) ((ownR.slN O nr nr (by omega)).mono (fun k h => ⟨by have:=h.1;omega,by have:=h.2;omega,fun e => by have:=E k e;have:=h.1;have:=h.2;omega⟩) (fun _ _ => rfl)) ((ownR.slf P nr nr).mono (fun k h => ⟨by have:=h.1;omega,by have:=h.2;omega,fun e => by have:=E k e;have:=h.1;have:=h.2;omega⟩) (fun _ _ => rfl))) (fun k h e => h.2.2 (e ▸ L))) ?_;rintro _ j0 ⟨x,v⟩;have ⟨j,b0⟩:=Eu i x (by have:=E _ L;omega);refine Ro 9 ?_;intro a hK;exact ⟨D,nr,(wrap .i64 (A + 1)),((B.set (A).toNat C)),hK.sub rfl,j,(by omega),(ownR.wideN v (by omega)),hF⟩
      · intro hF;refine Rc 12 ?_;cases szt hF;exact Ne rfl rfl ⟨_,rfl,_,rfl,ownR.baseN (ownR.wideN G (by omega)) (by omega),F⟩
def F_32 (n:Nat) (a0:S_Library):Option S_Library:=((F_1h n a0.Cells).bind fun r24=>(some ((S_Library.mk r24))))
theorem W_32 {M:S_Library} {r:S_Library} {J:Value} (hF:F_32 n M = some r) (hH:H ≤ w.heap.size) (U:slRep C_Cell w (Iv 0 H) M.Cells J) :
    Calls prog 31 [.agg #[J]].toArray w (Ret fun u L => ∃ I,u = .agg #[I]∧ownR C_Cell L w.heap.size (SX w.heap.size L.heap.size I) 86 r.Cells I∧Ext w L):=by
  refine calls_ofD func31 rfl ntmps31 ?_;have X:=Ext.refl w;unfold F_32 at hF;refine Rc 2 (Ef rfl (eff_box rfl rfl) ?_);rintro _ h ⟨T,rfl,m,o,d,C⟩;have C:Box h T [J] 24:=C;have ⟨c,x⟩:=Et X d;refine Ef rfl (eff_alloc rfl zn_39) ?_;rintro _ z ⟨N,rfl,i,j,Q,A⟩;have ⟨Y,p⟩:=Et c Q;have C:=C.ext Q;refine Ro 4 (Ef rfl (eff_alloc rfl zn_39) ?_);rintro _ A0 ⟨S,rfl,k,l,E,D⟩;have ⟨P,q⟩:=Et Y E;have C:=C.ext E;have A:=A.ext E;refine Ro 4 (Yl rfl (yfa rfl fo_24_0) (Yl rfl (ylb rfl ag_22 C rfl) ?_));have ⟨y,e,hF⟩:=bsome hF;refine Ef rfl (eca rfl gf_66 (W_1h e (by omega) (U.oh hH P) :)) ?_;rintro K B0 ⟨_,rfl,B,G⟩;have ⟨Z,s⟩:=Et P G;have A:=A.ext G;have D:=D.ext G;have O:=ownR.blk B;refine Yl rfl (yfa rfl fo_39_0) (Ef rfl (eff_store1 rfl rfl rfl D cn_37 (slRep.cells (ownR.slN B nr nr (by omega))) (slRep.one (ownR.slN B nr nr (by omega))) rfl) ?_);rintro _ f ⟨F,V⟩;have ⟨a,t⟩:=Eu Z F (by omega);have A:=A.upd F (by omega);have B:=B.updN F (Nb.of O (by omega)) (by omega);have D:Box f S [K] 39:=V;refine Ro 4 (Yl rfl (ynb rfl ag_39 D cn_39) (Ef rfl (est rfl A cn_39 (allc_cons (slRep.one (ownR.slN B nr nr (by omega))) allc_nil) rfl) ?_));rintro _ g ⟨R,W⟩;have ⟨b,v⟩:=Eu a R (by omega);have B:=B.updN R (Nb.of O (by omega)) (by omega);have A:Box g N [K] 39:=W;refine Ro 3 ?_;cases szt hF;exact NX.end (rs:=[.cell 2 39]) (vs:=[.agg #[K]]) rfl ⟨⟨N,rfl,box_load ag_39 cn_39 A⟩,trivial⟩ ⟨_,rfl,_,rfl,ownR.baseN (ownR.wideN B (by omega)) (by omega),b⟩
def F_2t (n:Nat) (a0:S_Instance):Option S_Instance:=((F_8 n a0.Nets).bind fun r34=>(some ((S_Instance.mk a0.Name a0.Cell r34))))
theorem W_2t {A:S_Instance} {r:S_Instance} {M:Value} (hF:F_2t n A = some r) (hH:H ≤ w.heap.size) (W:slRep (cInt .i64) w (Iv 0 H) A.Nets M) :
    Calls prog 102 [.agg #[.string A.Name,.i A.Cell,M]].toArray w (Ret fun u U => ∃ T,u = .agg #[.string r.Name,.i r.Cell,T]∧ownR (cInt .i64) U w.heap.size (Iv 0 0) 2 r.Nets T∧Ext w U):=by
  refine calls_ofD func102 rfl ntmps102 ?_;have b:=Ext.refl w;unfold F_2t at hF;refine Rc 2 (Ef rfl (eff_box rfl rfl) ?_);rintro _ o ⟨V,rfl,y,z,j,C⟩;have C:Box o V [.string A.Name,.i A.Cell,M] 170:=C;have ⟨i,H0⟩:=Et b j;refine Ef rfl (eff_alloc rfl zn_88) ?_;rintro _ J0 ⟨O,rfl,s,t,R,B⟩;have ⟨c,A0⟩:=Et i R;have C:=C.ext R;refine Ro 4 (Ef rfl (eff_alloc rfl zn_88) ?_);rintro _ K0 ⟨F,rfl,v,x,G,D⟩;have ⟨d,B0⟩:=Et c G;have C:=C.ext G;have B:=B.ext G;refine Ro 4 (Yl rfl (yfa rfl fo_170_0) (Yl rfl (ylb rfl ag_9 C rfl) (Yl rfl (yfa rfl fo_88_0) (Ef rfl (est rfl D cn_9 rfl rfl) ?_))));rintro _ l ⟨I,X⟩;have ⟨e,C0⟩:=Eu d I (by omega);have C:=C.upd I (by omega);have B:=B.upd I (by omega);have D:Box l F [.string A.Name,.i 0,.slice none 0 0] 88:=X;refine Ro 4 (Yl rfl (yfa rfl fo_170_1) (Yl rfl (ylb rfl ag_2 C rfl) (Yl rfl (yfa rfl fo_88_1) (Ef rfl (est rfl D cn_2 rfl rfl) ?_))));rintro _ m ⟨J,Y⟩;have ⟨Q,D0⟩:=Eu e J (by omega);have C:=C.upd J (by omega);have B:=B.upd J (by omega);have D:Box m F [.string A.Name,.i A.Cell,.slice none 0 0] 88:=Y;refine Ro 4 (Yl rfl (yfa rfl fo_170_2) (Yl rfl (ylb rfl ag_33 C rfl) ?_));have ⟨I0,k,hF⟩:=bsome hF;refine Ef rfl (eca rfl gf_8 (W_8 k (by omega) (W.oh hH Q) :)) ?_;rintro N L0 ⟨_,rfl,E,L⟩;have ⟨f,E0⟩:=Et Q L;have B:=B.ext L;have D:=D.ext L;have P:=ownR.blk E;refine Yl rfl (yfa rfl fo_88_2) (Ef rfl (eff_store1 rfl rfl rfl D cn_33 E.cells E.one rfl) ?_);rintro _ p ⟨K,Z⟩;have ⟨g,F0⟩:=Eu f K (by omega);have B:=B.upd K (by omega);have E:=E.upd K (Nb.of P (by omega));have D:Box p F [.string A.Name,.i A.Cell,N] 88:=Z;refine Ro 4 (Yl rfl (ynb rfl ag_88 D cn_88) (Ef rfl (est rfl B cn_88 (allc_cons rfl (allc_cons rfl (allc_cons E.one allc_nil))) rfl) ?_));rintro _ q ⟨S,a⟩;have ⟨h,G0⟩:=Eu g S (by omega);have E:=E.upd S (Nb.of P (by omega));have B:Box q O [.string A.Name,.i A.Cell,N] 88:=a;refine Ro 3 ?_;cases szt hF;exact NX.end (rs:=[.cell 2 88]) (vs:=[.agg #[.string A.Name,.i A.Cell,N]]) rfl ⟨⟨O,rfl,box_load ag_88 cn_88 B⟩,trivial⟩ ⟨_,rfl,_,rfl,ownR.base E (by omega),h⟩
def F_1i_L1 (n:Nat) (a0:List S_Instance) (k0:Int→(List S_Instance)→Option (List S_Instance)):Nat→Int→(List S_Instance)→Option (List S_Instance)
  | 0, _, _=>none
  | m + 1, i19, l20=>(bif decide (i19 < (a0.length:Int)) then ((getI a0 i19).bind fun x22=>((F_2t n x22).bind fun r33=>((getI l20 i19).bind fun x43=>(F_1i_L1 n a0 k0 m (wrap .i64 (i19 + 1)) ((l20.set (i19).toNat r33)))))) else (k0 i19 l20))
def F_1i (n:Nat) (a0:List S_Instance):Option (List S_Instance):=((mkN ((a0.length:Int)) 48).bind fun n3=>(F_1i_L1 n a0 (fun i19 l20=>(some l20)) n 0 (List.replicate n3 ((S_Instance.mk ByteArray.empty 0 (([]:List Int)))))))
theorem W_1i {G:List S_Instance} {r:List S_Instance} {O:Value} (hF:F_1i n G = some r) (hH:H ≤ w.heap.size) (I:slRep C_Instance w (Iv 0 H) G O) :
    Calls prog 67 [O].toArray w (Ret fun u Q => ∃ N,u = N∧ownR C_Instance Q w.heap.size (SX w.heap.size Q.heap.size N) 88 r N∧Ext w Q):=by
  refine calls_ofD func67 rfl ntmps67 ?_;have T:=Ext.refl w;unfold F_1i at hF;refine Rc 8 (Yl rfl (yle rfl underlying25 (I.oh hH T)) ?_);have ⟨v,i,hF⟩:=bsome hF;refine Ef rfl (eff_make (c:=C_Instance) (z:=(S_Instance.mk ByteArray.empty 0 (([]:List Int)))) rfl underlying40 in_88 rfl rfl rfl i rfl rfl (fun _ => C_Instance_mk (slRep.nil _ _ _))) ?_;rintro P B0 ⟨R,M,F0,I0,s,K⟩;have ⟨d,J0⟩:=Et T s;have K:=ownR.toN K M;have S:=bd_of M;clear M;refine Ro 10 ?_;refine WC.loopD (fun C a wl => ∃ (A:Int) (B:List S_Instance),Kn 23 [(0,O),(3,P),(4,.i A)] a∧Ext w wl∧B0.heap.size ≤ wl.heap.size∧ownR C_Instance wl (R) (SX (R) wl.heap.size P) 88 B P∧F_1i_L1 n G (fun A B => (some B)) C A B = some r) n ?_ ?_
  · intro a hK;exact ⟨0,(List.replicate v ((S_Instance.mk ByteArray.empty 0 (([]:List Int))))),hK.sub rfl,d,Nat.le_refl _,(ownR.wideN K (by omega)),hF⟩
  · rintro C a R0 ⟨A,B,hK,D,K0,E,hF⟩;revert a;change WC _ _ _ _ _ _
    cases C with
    | zero => exact nos hF
    | succ C =>
      rw [F_1i_L1.eq_2] at hF;refine Rc 5 (Yl rfl (yle rfl underlying25 (I.oh hH D)) (Ro 3 (Wc rfl hF ?_ ?_)))
      · intro hF;refine Rc 9 ?_;have ⟨Y,t,hF⟩:=bsome hF;refine Ye rfl (yix rfl underlying25 cn_170 (I.oh hH D) t) ?_;rintro _ ⟨C0,N0,O0,rfl,G0,j,Z⟩;obtain ⟨x,rfl,o⟩:=C_Instance_open j;refine Yl rfl (yln (us:=[.string Y.Name,.i Y.Cell,x]) rfl ag_170 Z cn_170) ?_;have ⟨F,l,hF⟩:=bsome hF;refine Ef rfl (eca rfl gf_102 (W_2t l (by omega) o :)) ?_;rintro _ A0 ⟨y,rfl,L,W⟩;have ⟨f,L0⟩:=Et D W;have E:=E.extN W (by omega);have E0:=ownR.blk L;have ⟨T0,X,hF⟩:=bsome hF;have V:=ownR.wideN (hi':=A0.heap.size) E (by omega);refine Ye rfl (yio rfl underlying40 cn_88 V X) ?_;rintro _ ⟨D0,P0,rfl,J,U,b⟩;have m:=U;obtain ⟨Q0,rfl,H0⟩:=C_Instance_open U;refine Ef rfl (eff_store_own (c:=C_Instance) (us':=[.string F.Name,.i F.Cell,y]) (y':=F) 0 _ rfl rfl rfl V J X rfl cn_88 (allc_cons rfl (allc_cons rfl (allc_cons L.one allc_nil))) m b rfl rfl (C_Instance_mk ((ownR.slf L nr nr).mono (fun k h => ⟨by have:=h.1;omega,by have:=h.2;omega,fun e => by have:=S k e;have:=h.1;have:=h.2;omega⟩) (fun _ _ => rfl))) (fun k h e => h.2.2 (e ▸ J))) ?_;rintro _ S0 ⟨q,p⟩;have ⟨g,M0⟩:=Eu f q (by have:=S _ J;omega);refine Ro 9 ?_;intro a hK;exact ⟨C,nr,(wrap .i64 (A + 1)),((B.set (A).toNat F)),hK.sub rfl,g,(by omega),(ownR.wideN p (by omega)),hF⟩
      · intro hF;refine Rc 12 ?_;cases szt hF;exact Ne rfl rfl ⟨_,rfl,_,rfl,ownR.baseN (ownR.wideN E (by omega)) (by omega),D⟩
def F_1j_L1 (a0:List ByteArray) (k0:Int→(List ByteArray)→Option (List ByteArray)):Nat→Int→(List ByteArray)→Option (List ByteArray)
  | 0, _, _=>none
  | m + 1, i19, l20=>(bif decide (i19 < (a0.length:Int)) then ((getI a0 i19).bind fun x22=>((getI l20 i19).bind fun x31=>(F_1j_L1 a0 k0 m (wrap .i64 (i19 + 1)) ((l20.set (i19).toNat x22))))) else (k0 i19 l20))
def F_1j (n:Nat) (a0:List ByteArray):Option (List ByteArray):=((mkN ((a0.length:Int)) 16).bind fun n3=>(F_1j_L1 a0 (fun i19 l20=>(some l20)) n 0 (List.replicate n3 ByteArray.empty)))
theorem W_1j {E:List ByteArray} {r:List ByteArray} {I:Value} (hF:F_1j n E = some r) (hH:H ≤ w.heap.size) (F:slRep cStr w (Iv 0 H) E I) :
    Calls prog 68 [I].toArray w (Ret fun u R => ∃ P,u = P∧ownR cStr R w.heap.size (Iv 0 0) 9 r P∧Ext w R):=by
  refine calls_ofD func68 rfl ntmps68 ?_;have K:=Ext.refl w;unfold F_1j at hF;refine Rc 8 (Yl rfl (yle rfl underlying26 (F.oh hH K)) ?_);have ⟨i,Y,hF⟩:=bsome hF;refine Ef rfl (eff_make (c:=cStr) (z:=ByteArray.empty) rfl underlying26 in_9 rfl rfl rfl Y rfl rfl (fun _ => rfl)) ?_;rintro Q j ⟨S,N,o,q,f,b⟩;have ⟨W,s⟩:=Et K f;have T:=bd_of N;clear N;refine Ro 10 ?_;refine WC.loopD (fun C a wl => ∃ (A:Int) (B:List ByteArray),Kn 22 [(0,I),(3,Q),(4,.i A)] a∧Ext w wl∧j.heap.size ≤ wl.heap.size∧ownR cStr wl (S) (Iv 0 0) 9 B Q∧F_1j_L1 E (fun A B => (some B)) C A B = some r) n ?_ ?_
  · intro a hK;exact ⟨0,(List.replicate i ByteArray.empty),hK.sub rfl,W,Nat.le_refl _,b,hF⟩
  · rintro C a A0 ⟨A,B,hK,D,t,G,hF⟩;revert a;change WC _ _ _ _ _ _
    cases C with
    | zero => exact nos hF
    | succ C =>
      rw [F_1j_L1.eq_2] at hF;refine Rc 5 (Yl rfl (yle rfl underlying26 (F.oh hH D)) (Ro 3 (Wc rfl hF ?_ ?_)))
      · intro hF;refine Rc 9 ?_;have ⟨J,g,hF⟩:=bsome hF;refine Ye rfl (yix rfl underlying26 cn_9 (F.oh hH D) g) ?_;rintro _ ⟨l,x,_,rfl,p,rfl,U⟩;refine Yl rfl (ylc 0 rfl ag_9 U rfl rfl) ?_;have ⟨C0,O,hF⟩:=bsome hF;refine Ye rfl (yio rfl underlying26 cn_9 G O) ?_;rintro _ ⟨m,y,rfl,L,M,V⟩;have Z:=M;obtain rfl:=M;refine Ef rfl (eff_store_own (c:=cStr) (us':=[.string J]) (y':=J) 0 _ rfl rfl rfl G L O rfl cn_9 rfl Z V rfl rfl rfl (fun k h => absurd h.2 (Nat.not_lt_zero k))) ?_;rintro _ B0 ⟨e,d⟩;have ⟨X,v⟩:=Eu D e (by have:=T _ L;omega);refine Ro 9 ?_;intro a hK;exact ⟨C,nr,(wrap .i64 (A + 1)),((B.set (A).toNat J)),hK.sub rfl,X,(by omega),d,hF⟩
      · intro hF;refine Rc 12 ?_;cases szt hF;exact Ne rfl rfl ⟨_,rfl,_,rfl,ownR.base G (by omega),D⟩
def F_33 (n:Nat) (a0:S_Port):Option S_Port:=(some a0)
theorem W_33 {A:S_Port} {r:S_Port} (hF:F_33 n A = some r) :
    Calls prog 103 [.agg #[.string A.Name,.i A.Dir,.i A.Net]].toArray w (Ret fun u I => u = .agg #[.string r.Name,.i r.Dir,.i r.Net]∧Ext w I):=by
  refine calls_ofD func103 rfl ntmps103 ?_;have R:=Ext.refl w;unfold F_33 at hF;refine Rc 2 (Ef rfl (eff_box rfl rfl) ?_);rintro _ I ⟨M,rfl,j,k,Z,B⟩;have B:Box I M [.string A.Name,.i A.Dir,.i A.Net] 172:=B;have ⟨Y,t⟩:=Et R Z;refine Ef rfl (eff_alloc rfl zn_130) ?_;rintro _ x ⟨J,rfl,f,g,K,C⟩;have ⟨S,l⟩:=Et Y K;have B:=B.ext K;refine Ro 4 (Ef rfl (eff_alloc rfl zn_130) ?_);rintro _ v ⟨E,rfl,h,i,F,D⟩;have ⟨T,m⟩:=Et S F;have B:=B.ext F;have C:=C.ext F;refine Ro 4 (Yl rfl (yfa rfl fo_172_0) (Yl rfl (ylb rfl ag_9 B rfl) (Yl rfl (yfa rfl fo_130_0) (Ef rfl (est rfl D cn_9 rfl rfl) ?_))));rintro _ b ⟨G,N⟩;have ⟨U,o⟩:=Eu T G (by omega);have B:=B.upd G (by omega);have C:=C.upd G (by omega);have D:Box b E [.string A.Name,.i 0,.i 0] 130:=N;refine Ro 4 (Yl rfl (yfa rfl fo_172_1) (Yl rfl (ylb rfl ag_2 B rfl) (Yl rfl (yfa rfl fo_130_1) (Ef rfl (est rfl D cn_2 rfl rfl) ?_))));rintro _ c ⟨H,O⟩;have ⟨V,p⟩:=Eu U H (by omega);have B:=B.upd H (by omega);have C:=C.upd H (by omega);have D:Box c E [.string A.Name,.i A.Dir,.i 0] 130:=O;refine Ro 4 (Yl rfl (yfa rfl fo_172_2) (Yl rfl (ylb rfl ag_2 B rfl) (Yl rfl (yfa rfl fo_130_2) (Ef rfl (est rfl D cn_2 rfl rfl) ?_))));rintro _ d ⟨L,P⟩;have ⟨W,q⟩:=Eu V L (by omega);have C:=C.upd L (by omega);have D:Box d E [.string A.Name,.i A.Dir,.i A.Net] 130:=P;refine Ro 4 (Yl rfl (ynb rfl ag_130 D cn_130) (Ef rfl (est rfl C cn_130 rfl rfl) ?_));rintro _ e ⟨a,Q⟩;have ⟨X,s⟩:=Eu W a (by omega);have C:Box e J [.string A.Name,.i A.Dir,.i A.Net] 130:=Q;refine Ro 3 ?_;obtain rfl:=(szs hF);exact NX.end (rs:=[.cell 2 130]) (vs:=[.agg #[.string A.Name,.i A.Dir,.i A.Net]]) rfl ⟨⟨J,rfl,box_load ag_130 cn_130 C⟩,trivial⟩ ⟨_,rfl,rfl,X⟩
def F_1k_L1 (n:Nat) (a0:List S_Port) (k0:Int→(List S_Port)→Option (List S_Port)):Nat→Int→(List S_Port)→Option (List S_Port)
  | 0, _, _=>none
  | m + 1, i19, l20=>(bif decide (i19 < (a0.length:Int)) then ((getI a0 i19).bind fun x22=>((F_33 n x22).bind fun r31=>((getI l20 i19).bind fun x37=>(F_1k_L1 n a0 k0 m (wrap .i64 (i19 + 1)) ((l20.set (i19).toNat r31)))))) else (k0 i19 l20))
def F_1k (n:Nat) (a0:List S_Port):Option (List S_Port):=((mkN ((a0.length:Int)) 32).bind fun n3=>(F_1k_L1 n a0 (fun i19 l20=>(some l20)) n 0 (List.replicate n3 ((S_Port.mk ByteArray.empty 0 0)))))
theorem W_1k {G:List S_Port} {r:List S_Port} {J:Value} (hF:F_1k n G = some r) (hH:H ≤ w.heap.size) (I:slRep C_Port w (Iv 0 H) G J) :
    Calls prog 69 [J].toArray w (Ret fun u T => ∃ R,u = R∧ownR C_Port T w.heap.size (Iv 0 0) 130 r R∧Ext w T):=by
  refine calls_ofD func69 rfl ntmps69 ?_;have L:=Ext.refl w;unfold F_1k at hF;refine Rc 8 (Yl rfl (yle rfl underlying27 (I.oh hH L)) ?_);have ⟨p,d,hF⟩:=bsome hF;refine Ef rfl (eff_make (c:=C_Port) (z:=(S_Port.mk ByteArray.empty 0 0)) rfl underlying41 in_130 rfl rfl rfl d rfl rfl (fun _ => C_Port_mk)) ?_;rintro S q ⟨U,O,v,y,m,i⟩;have ⟨Y,A0⟩:=Et L m;have V:=bd_of O;clear O;refine Ro 10 ?_;refine WC.loopD (fun D a wl => ∃ (A:Int) (B:List S_Port),Kn 23 [(0,J),(3,S),(4,.i A)] a∧Ext w wl∧q.heap.size ≤ wl.heap.size∧ownR C_Port wl (U) (Iv 0 0) 130 B S∧F_1k_L1 n G (fun A B => (some B)) D A B = some r) n ?_ ?_
  · intro a hK;exact ⟨0,(List.replicate p ((S_Port.mk ByteArray.empty 0 0))),hK.sub rfl,Y,Nat.le_refl _,i,hF⟩
  · rintro D a H0 ⟨A,B,hK,F,B0,C,hF⟩;revert a;change WC _ _ _ _ _ _
    cases D with
    | zero => exact nos hF
    | succ D =>
      rw [F_1k_L1.eq_2] at hF;refine Rc 5 (Yl rfl (yle rfl underlying27 (I.oh hH F)) (Ro 3 (Wc rfl hF ?_ ?_)))
      · intro hF;refine Rc 9 ?_;have ⟨K,o,hF⟩:=bsome hF;refine Ye rfl (yix rfl underlying27 cn_172 (I.oh hH F) o) ?_;rintro _ ⟨s,E0,F0,rfl,x,e,W⟩;obtain rfl:=C_Port_open e;refine Yl rfl (yln (us:=[.string K.Name,.i K.Dir,.i K.Net]) rfl ag_172 W cn_172) ?_;have ⟨E,f,hF⟩:=bsome hF;refine Ef rfl (eca rfl gf_103 (W_33 f :)) ?_;rintro _ I0 ⟨rfl,P⟩;have ⟨Z,C0⟩:=Et F P;have C:=C.ext P;have ⟨K0,Q,hF⟩:=bsome hF;refine Ye rfl (yio rfl underlying41 cn_130 C Q) ?_;rintro _ ⟨t,G0,rfl,M,N,X⟩;have g:=N;obtain rfl:=C_Port_open N;refine Ef rfl (eff_store_own (c:=C_Port) (us':=[.string E.Name,.i E.Dir,.i E.Net]) (y':=E) 0 _ rfl rfl rfl C M Q rfl cn_130 rfl g X rfl rfl C_Port_mk (fun k h => absurd h.2 (Nat.not_lt_zero k))) ?_;rintro _ J0 ⟨l,j⟩;have ⟨b,D0⟩:=Eu Z l (by have:=V _ M;omega);refine Ro 9 ?_;intro a hK;exact ⟨D,nr,(wrap .i64 (A + 1)),((B.set (A).toNat E)),hK.sub rfl,b,(by omega),j,hF⟩
      · intro hF;refine Rc 12 ?_;cases szt hF;exact Ne rfl rfl ⟨_,rfl,_,rfl,ownR.base C (by omega),F⟩
def F_34 (n:Nat) (a0:S_Design):Option S_Design:=((F_1i n a0.Instances).bind fun r28=>((F_1j n a0.Nets).bind fun r43=>((F_1k n a0.Ports).bind fun r58=>(some ((S_Design.mk r28 r43 r58))))))
theorem W_34 {Q:S_Design} {r:S_Design} {a b c:Value} (hF:F_34 n Q = some r) (hH:H ≤ w.heap.size) (l:slRep C_Instance w (Iv 0 H) Q.Instances a) (m:slRep cStr w (Iv 0 H) Q.Nets b) (o:slRep C_Port w (Iv 0 H) Q.Ports c) :
    Calls prog 32 [.agg #[a,b,c]].toArray w (Ret fun u P => ∃ N V W,u = .agg #[N,V,W]∧ownR C_Instance P w.heap.size (SX w.heap.size P.heap.size N) 88 r.Instances N∧ownR cStr P w.heap.size (Iv 0 0) 9 r.Nets V∧ownR C_Port P w.heap.size (Iv 0 0) 130 r.Ports W∧(∀ g q,V.ownBlock = some g → N.ownBlock = some q → g ≠ q)∧(∀ g q,W.ownBlock = some g → N.ownBlock = some q → g ≠ q)∧(∀ g q,W.ownBlock = some g → V.ownBlock = some q → g ≠ q)∧Ext w P):=by
  refine calls_ofD func32 rfl ntmps32 ?_;have x:=Ext.refl w;unfold F_34 at hF;refine Rc 2 (Ef rfl (eff_box rfl rfl) ?_);rintro _ N0 ⟨k,rfl,S0,T0,F0,A⟩;have A:Box N0 k [a,b,c] 29:=A;have ⟨y,U0⟩:=Et x F0;refine Ef rfl (eff_alloc rfl zn_43) ?_;rintro _ h0 ⟨e,rfl,O0,P0,j,B⟩;have ⟨z,V0⟩:=Et y j;have A:=A.ext j;refine Ro 4 (Ef rfl (eff_alloc rfl zn_43) ?_);rintro _ i0 ⟨Y,rfl,Q0,R0,Z,D⟩;have ⟨f,W0⟩:=Et z Z;have A:=A.ext Z;have B:=B.ext Z;refine Ro 4 (Yl rfl (yfa rfl fo_29_0) (Yl rfl (ylb rfl ag_25 A rfl) ?_));have ⟨e0,G0,hF⟩:=bsome hF;refine Ef rfl (eca rfl gf_67 (W_1i G0 (by omega) (l.oh hH f) :)) ?_;rintro O j0 ⟨_,rfl,C,U⟩;have ⟨A0,X0⟩:=Et f U;have A:=A.ext U;have B:=B.ext U;have D:=D.ext U;have G:=ownR.blk C;refine Yl rfl (yfa rfl fo_43_0) (Ef rfl (eff_store1 rfl rfl rfl D cn_40 (slRep.cells (ownR.slN C nr nr (by omega))) (slRep.one (ownR.slN C nr nr (by omega))) rfl) ?_);rintro _ J0 ⟨S,p⟩;have ⟨h,Y0⟩:=Eu A0 S (by omega);have A:=A.upd S (by omega);have B:=B.upd S (by omega);have C:=C.updN S (Nb.of G (by omega)) (by omega);have D:Box J0 Y [O,.slice none 0 0,.slice none 0 0] 43:=p;refine Ro 4 (Yl rfl (yfa rfl fo_29_1) (Yl rfl (ylb rfl ag_26 A rfl) ?_));have ⟨f0,H0,hF⟩:=bsome hF;refine Ef rfl (eca rfl gf_68 (W_1j H0 (by omega) (m.oh hH h) :)) ?_;rintro X k0 ⟨_,rfl,E,L⟩;have ⟨B0,Z0⟩:=Et h L;have A:=A.ext L;have B:=B.ext L;have D:=D.ext L;have C:=C.extN L (by omega);have I:=ownR.blk E;refine Yl rfl (yfa rfl fo_43_1) (Ef rfl (eff_store1 rfl rfl rfl D cn_26 E.cells E.one rfl) ?_);rintro _ K0 ⟨J,s⟩;have ⟨i,a0⟩:=Eu B0 J (by omega);have A:=A.upd J (by omega);have B:=B.upd J (by omega);have C:=C.updN J (Nb.of G (by omega)) (by omega);have E:=E.upd J (Nb.of I (by omega));have D:Box K0 Y [O,X,.slice none 0 0] 43:=s;refine Ro 4 (Yl rfl (yfa rfl fo_29_2) (Yl rfl (ylb rfl ag_27 A rfl) ?_));have ⟨g0,I0,hF⟩:=bsome hF;refine Ef rfl (eca rfl gf_69 (W_1k I0 (by omega) (o.oh hH i) :)) ?_;rintro d l0 ⟨_,rfl,F,M⟩;have ⟨C0,b0⟩:=Et i M;have B:=B.ext M;have D:=D.ext M;have C:=C.extN M (by omega);have E:=E.ext M;have R:=ownR.blk F;refine Yl rfl (yfa rfl fo_43_2) (Ef rfl (eff_store1 rfl rfl rfl D cn_41 F.cells F.one rfl) ?_);rintro _ L0 ⟨K,t⟩;have ⟨D0,c0⟩:=Eu C0 K (by omega);have B:=B.upd K (by omega);have C:=C.updN K (Nb.of G (by omega)) (by omega);have E:=E.upd K (Nb.of I (by omega));have F:=F.upd K (Nb.of R (by omega));have D:Box L0 Y [O,X,d] 43:=t;refine Ro 4 (Yl rfl (ynb rfl ag_43 D cn_43) (Ef rfl (est rfl B cn_43 (allc_cons (slRep.one (ownR.slN C nr nr (by omega))) (allc_cons E.one (allc_cons F.one allc_nil))) rfl) ?_));rintro _ M0 ⟨T,v⟩;have ⟨E0,d0⟩:=Eu D0 T (by omega);have C:=C.updN T (Nb.of G (by omega)) (by omega);have E:=E.upd T (Nb.of I (by omega));have F:=F.upd T (Nb.of R (by omega));have B:Box M0 e [O,X,d] 43:=v;refine Ro 3 ?_;cases szt hF;exact NX.end (rs:=[.cell 2 43]) (vs:=[.agg #[O,X,d]]) rfl ⟨⟨e,rfl,box_load ag_43 cn_43 B⟩,trivial⟩ ⟨_,rfl,_,_,_,rfl,ownR.baseN (ownR.wideN C (by omega)) (by omega),ownR.base E (by omega),ownR.base F (by omega),(No.of I G (by omega)),(No.of R G (by omega)),(No.of R I (by omega)),E0⟩
def F_2u (n:Nat) (a0:S_Wire):Option S_Wire:=((F_8 n a0.Parent).bind fun r30=>((F_8 n a0.Res).bind fun r45=>((F_8 n a0.Cap).bind fun r60=>((F_8 n a0.Sink).bind fun r75=>(some ((S_Wire.mk r30 r45 r60 r75)))))))
theorem W_2u {Q:S_Wire} {r:S_Wire} {h i j k:Value} (hF:F_2u n Q = some r) (hH:H ≤ w.heap.size) (y:slRep (cInt .i64) w (Iv 0 H) Q.Parent h) (z:slRep (cInt .i64) w (Iv 0 H) Q.Res i) (A0:slRep (cInt .i64) w (Iv 0 H) Q.Cap j) (B0:slRep (cInt .i64) w (Iv 0 H) Q.Sink k) :
    Calls prog 70 [.agg #[h,i,j,k]].toArray w (Ret fun u a => ∃ V W X Y,u = .agg #[V,W,X,Y]∧ownR (cInt .i64) a w.heap.size (Iv 0 0) 2 r.Parent V∧ownR (cInt .i64) a w.heap.size (Iv 0 0) 2 r.Res W∧ownR (cInt .i64) a w.heap.size (Iv 0 0) 2 r.Cap X∧ownR (cInt .i64) a w.heap.size (Iv 0 0) 2 r.Sink Y∧(∀ g q,W.ownBlock = some g → V.ownBlock = some q → g ≠ q)∧(∀ g q,X.ownBlock = some g → V.ownBlock = some q → g ≠ q)∧(∀ g q,X.ownBlock = some g → W.ownBlock = some q → g ≠ q)∧(∀ g q,Y.ownBlock = some g → V.ownBlock = some q → g ≠ q)∧(∀ g q,Y.ownBlock = some g → W.ownBlock = some q → g ≠ q)∧(∀ g q,Y.ownBlock = some g → X.ownBlock = some q → g ≠ q)∧Ext w a):=by
  refine calls_ofD func70 rfl ntmps70 ?_;have H0:=Ext.refl w;unfold F_2u at hF;refine Rc 2 (Ef rfl (eff_box rfl rfl) ?_);rintro _ V0 ⟨x,rfl,b0,c0,Q0,A⟩;have A:Box V0 x [h,i,j,k] 126:=A;have ⟨I0,h0⟩:=Et H0 Q0;refine Ef rfl (eff_alloc rfl zn_140) ?_;rintro _ x0 ⟨m,rfl,d0,e0,v,B⟩;have ⟨J0,i0⟩:=Et I0 v;have A:=A.ext v;refine Ro 4 (Ef rfl (eff_alloc rfl zn_140) ?_);rintro _ y0 ⟨b,rfl,f0,g0,f,D⟩;have ⟨o,j0⟩:=Et J0 f;have A:=A.ext f;have B:=B.ext f;refine Ro 4 (Yl rfl (yfa rfl fo_126_0) (Yl rfl (ylb rfl ag_33 A rfl) ?_));have ⟨t0,R0,hF⟩:=bsome hF;refine Ef rfl (eca rfl gf_8 (W_8 R0 (by omega) (y.oh hH o) :)) ?_;rintro P z0 ⟨_,rfl,C,d⟩;have ⟨K0,k0⟩:=Et o d;have A:=A.ext d;have B:=B.ext d;have D:=D.ext d;have I:=ownR.blk C;refine Yl rfl (yfa rfl fo_140_0) (Ef rfl (eff_store1 rfl rfl rfl D cn_33 C.cells C.one rfl) ?_);rintro _ W0 ⟨c,C0⟩;have ⟨p,l0⟩:=Eu K0 c (by omega);have A:=A.upd c (by omega);have B:=B.upd c (by omega);have C:=C.upd c (Nb.of I (by omega));have D:Box W0 b [P,.slice none 0 0,.slice none 0 0,.slice none 0 0] 140:=C0;refine Ro 4 (Yl rfl (yfa rfl fo_126_1) (Yl rfl (ylb rfl ag_33 A rfl) ?_));have ⟨u0,S0,hF⟩:=bsome hF;refine Ef rfl (eca rfl gf_8 (W_8 S0 (by omega) (z.oh hH p) :)) ?_;rintro Z A1 ⟨_,rfl,E,U⟩;have ⟨L0,m0⟩:=Et p U;have A:=A.ext U;have B:=B.ext U;have D:=D.ext U;have C:=C.ext U;have J:=ownR.blk E;refine Yl rfl (yfa rfl fo_140_1) (Ef rfl (eff_store1 rfl rfl rfl D cn_33 E.cells E.one rfl) ?_);rintro _ X0 ⟨S,D0⟩;have ⟨s,n0⟩:=Eu L0 S (by omega);have A:=A.upd S (by omega);have B:=B.upd S (by omega);have C:=C.upd S (Nb.of I (by omega));have E:=E.upd S (Nb.of J (by omega));have D:Box X0 b [P,Z,.slice none 0 0,.slice none 0 0] 140:=D0;refine Ro 4 (Yl rfl (yfa rfl fo_126_2) (Yl rfl (ylb rfl ag_33 A rfl) ?_));have ⟨v0,T0,hF⟩:=bsome hF;refine Ef rfl (eca rfl gf_8 (W_8 T0 (by omega) (A0.oh hH s) :)) ?_;rintro e B1 ⟨_,rfl,F,N⟩;have ⟨M0,o0⟩:=Et s N;have A:=A.ext N;have B:=B.ext N;have D:=D.ext N;have C:=C.ext N;have E:=E.ext N;have K:=ownR.blk F;refine Yl rfl (yfa rfl fo_140_2) (Ef rfl (eff_store1 rfl rfl rfl D cn_33 F.cells F.one rfl) ?_);rintro _ Y0 ⟨L,E0⟩;have ⟨t,p0⟩:=Eu M0 L (by omega);have A:=A.upd L (by omega);have B:=B.upd L (by omega);have C:=C.upd L (Nb.of I (by omega));have E:=E.upd L (Nb.of J (by omega));have F:=F.upd L (Nb.of K (by omega));have D:Box Y0 b [P,Z,e,.slice none 0 0] 140:=E0;refine Ro 4 (Yl rfl (yfa rfl fo_126_3) (Yl rfl (ylb rfl ag_33 A rfl) ?_));have ⟨w0,U0,hF⟩:=bsome hF;refine Ef rfl (eca rfl gf_8 (W_8 U0 (by omega) (B0.oh hH t) :)) ?_;rintro l C1 ⟨_,rfl,G,O⟩;have ⟨N0,q0⟩:=Et t O;have B:=B.ext O;have D:=D.ext O;have C:=C.ext O;have E:=E.ext O;have F:=F.ext O;have R:=ownR.blk G;refine Yl rfl (yfa rfl fo_140_3) (Ef rfl (eff_store1 rfl rfl rfl D cn_33 G.cells G.one rfl) ?_);rintro _ Z0 ⟨M,F0⟩;have ⟨O0,r0⟩:=Eu N0 M (by omega);have B:=B.upd M (by omega);have C:=C.upd M (Nb.of I (by omega));have E:=E.upd M (Nb.of J (by omega));have F:=F.upd M (Nb.of K (by omega));have G:=G.upd M (Nb.of R (by omega));have D:Box Z0 b [P,Z,e,l] 140:=F0;refine Ro 4 (Yl rfl (ynb rfl ag_140 D cn_140) (Ef rfl (est rfl B cn_140 (allc_cons C.one (allc_cons E.one (allc_cons F.one (allc_cons G.one allc_nil)))) rfl) ?_));rintro _ a0 ⟨T,G0⟩;have ⟨P0,s0⟩:=Eu O0 T (by omega);have C:=C.upd T (Nb.of I (by omega));have E:=E.upd T (Nb.of J (by omega));have F:=F.upd T (Nb.of K (by omega));have G:=G.upd T (Nb.of R (by omega));have B:Box a0 m [P,Z,e,l] 140:=G0;refine Ro 3 ?_;cases szt hF;exact NX.end (rs:=[.cell 2 140]) (vs:=[.agg #[P,Z,e,l]]) rfl ⟨⟨m,rfl,box_load ag_140 cn_140 B⟩,trivial⟩ ⟨_,rfl,_,_,_,_,rfl,ownR.base C (by omega),ownR.base E (by omega),ownR.base F (by omega),ownR.base G (by omega),(No.of J I (by omega)),(No.of K I (by omega)),(No.of K J (by omega)),(No.of R I (by omega)),(No.of R J (by omega)),(No.of R K (by omega)),P0⟩
def F_1l_L1 (n:Nat) (a0:List S_Wire) (k0:Int→(List S_Wire)→Option (List S_Wire)):Nat→Int→(List S_Wire)→Option (List S_Wire)
  | 0, _, _=>none
  | m + 1, i19, l20=>(bif decide (i19 < (a0.length:Int)) then ((getI a0 i19).bind fun x22=>((F_2u n x22).bind fun r39=>((getI l20 i19).bind fun x67=>(F_1l_L1 n a0 k0 m (wrap .i64 (i19 + 1)) ((l20.set (i19).toNat r39)))))) else (k0 i19 l20))
def F_1l (n:Nat) (a0:List S_Wire):Option (List S_Wire):=((mkN ((a0.length:Int)) 96).bind fun n3=>(F_1l_L1 n a0 (fun i19 l20=>(some l20)) n 0 (List.replicate n3 ((S_Wire.mk (([]:List Int)) (([]:List Int)) (([]:List Int)) (([]:List Int)))))))
theorem W_1l {G:List S_Wire} {r:List S_Wire} {R:Value} (hF:F_1l n G = some r) (hH:H ≤ w.heap.size) (I:slRep C_Wire w (Iv 0 H) G R) :
    Calls prog 33 [R].toArray w (Ret fun u T => ∃ Q,u = Q∧ownR C_Wire T w.heap.size (SX w.heap.size T.heap.size Q) 140 r Q∧Ext w T):=by
  refine calls_ofD func33 rfl ntmps33 ?_;have V:=Ext.refl w;unfold F_1l at hF;refine Rc 8 (Yl rfl (yle rfl underlying30 (I.oh hH V)) ?_);have ⟨C0,l,hF⟩:=bsome hF;refine Ef rfl (eff_make (c:=C_Wire) (z:=(S_Wire.mk (([]:List Int)) (([]:List Int)) (([]:List Int)) (([]:List Int)))) rfl underlying44 in_140 rfl rfl rfl l rfl rfl (fun _ => C_Wire_mk (slRep.nil _ _ _) (slRep.nil _ _ _) (slRep.nil _ _ _) (slRep.nil _ _ _))) ?_;rintro S M0 ⟨U,P,T0,f0,A0,K⟩;have ⟨g,g0⟩:=Et V A0;have K:=ownR.toN K P;have C:=bd_of P;clear P;refine Ro 10 ?_;refine WC.loopD (fun D a wl => ∃ (A:Int) (B:List S_Wire),Kn 23 [(0,R),(3,S),(4,.i A)] a∧Ext w wl∧M0.heap.size ≤ wl.heap.size∧ownR C_Wire wl (U) (SX (U) wl.heap.size S) 140 B S∧F_1l_L1 n G (fun A B => (some B)) D A B = some r) n ?_ ?_
  · intro a hK;exact ⟨0,(List.replicate C0 ((S_Wire.mk (([]:List Int)) (([]:List Int)) (([]:List Int)) (([]:List Int))))),hK.sub rfl,g,Nat.le_refl _,(ownR.wideN K (by omega)),hF⟩
  · rintro D a r0 ⟨A,B,hK,E,h0,F,hF⟩;revert a;change WC _ _ _ _ _ _
    cases D with
    | zero => exact nos hF
    | succ D =>
      rw [F_1l_L1.eq_2] at hF;refine Rc 5 (Yl rfl (yle rfl underlying30 (I.oh hH E)) (Ro 3 (Wc rfl hF ?_ ?_)))
      · intro hF;refine Rc 9 ?_;have ⟨t0,B0,hF⟩:=bsome hF;refine Ye rfl (yix rfl underlying30 cn_126 (I.oh hH E) B0) ?_;rintro _ ⟨N0,k0,l0,rfl,U0,m,d⟩;obtain ⟨D0,E0,F0,G0,rfl,q,s,t,v⟩:=C_Wire_open m;refine Yl rfl (yln (us:=[D0,E0,F0,G0]) rfl ag_126 d cn_126) ?_;have ⟨b,o,hF⟩:=bsome hF;refine Ef rfl (eca rfl gf_70 (W_2u o (by omega) q s t v :)) ?_;rintro _ L0 ⟨H0,I0,J0,K0,rfl,L,M,N,O,V0,W0,X0,Y0,Z0,a0,Y⟩;have ⟨i,i0⟩:=Et E Y;have F:=F.extN Y (by omega);have P0:=ownR.blk L;have Q0:=ownR.blk M;have R0:=ownR.blk N;have S0:=ownR.blk O;have ⟨u0,Z,hF⟩:=bsome hF;have X:=ownR.wideN (hi':=L0.heap.size) F (by omega);refine Ye rfl (yio rfl underlying44 cn_140 X Z) ?_;rintro _ ⟨O0,m0,rfl,J,W,f⟩;have p:=W;obtain ⟨n0,o0,p0,q0,rfl,b0,c0,d0,e0⟩:=C_Wire_open W;refine Ef rfl (eff_store_own (c:=C_Wire) (us':=[H0,I0,J0,K0]) (y':=b) 0 _ rfl rfl rfl X J Z rfl cn_140 (allc_cons L.one (allc_cons M.one (allc_cons N.one (allc_cons O.one allc_nil)))) p f rfl rfl (C_Wire_mk ((ownR.slf L nr nr).mono (fun k h => ⟨by have:=h.1;omega,by have:=h.2;omega,fun e => by have:=C k e;have:=h.1;have:=h.2;omega⟩) (fun _ _ => rfl)) ((ownR.slf M nr nr).mono (fun k h => ⟨by have:=h.1;omega,by have:=h.2;omega,fun e => by have:=C k e;have:=h.1;have:=h.2;omega⟩) (fun _ _ => rfl)) ((ownR.slf N nr nr).mono (fun k h => ⟨by have:=h.1;omega,by have:=h.2;omega,fun e => by have:=C k e;have:=h.1;have:=h.2;omega⟩) (fun _ _ => rfl)) ((ownR.slf O nr nr).mono (fun k h => ⟨by have:=h.1;omega,by have:=h.2;omega,fun e => by have:=C k e;have:=h.1;have:=h.2;omega⟩) (fun _ _ => rfl))) (fun k h e => h.2.2 (e ▸ J))) ?_;rintro _ s0 ⟨y,x⟩;have ⟨j,j0⟩:=Eu i y (by have:=C _ J;omega);refine Ro 9 ?_;intro a hK;exact ⟨D,nr,(wrap .i64 (A + 1)),((B.set (A).toNat b)),hK.sub rfl,j,(by omega),(ownR.wideN x (by omega)),hF⟩
      · intro hF;refine Rc 12 ?_;cases szt hF;exact Ne rfl rfl ⟨_,rfl,_,rfl,ownR.baseN (ownR.wideN F (by omega)) (by omega),E⟩
def F_1w (n:Nat) (a0:S_Block):Option S_Block:=((F_32 n a0.Library).bind fun r32=>((F_34 n a0.Design).bind fun r47=>((F_1l n a0.Wires).bind fun r73=>(some ((S_Block.mk r32 r47 r73))))))
theorem W_1w {R:S_Block} {r:S_Block} {a b d e s:Value} (hF:F_1w n R = some r) (hH:H ≤ w.heap.size) (B0:slRep C_Cell w (Iv 0 H) R.Library.Cells a) (C0:slRep C_Instance w (Iv 0 H) R.Design.Instances b) (D0:slRep cStr w (Iv 0 H) R.Design.Nets d) (E0:slRep C_Port w (Iv 0 H) R.Design.Ports e) (A0:slRep C_Wire w (Iv 0 H) R.Wires s) :
    Calls prog 7 [.agg #[a,b,d,e,s]].toArray w (Ret fun u J => ∃ O P U V Q,u = .agg #[O,P,U,V,Q]∧ownR C_Cell J w.heap.size (SX w.heap.size J.heap.size O) 86 r.Library.Cells O∧ownR C_Instance J w.heap.size (SX w.heap.size J.heap.size P) 88 r.Design.Instances P∧ownR cStr J w.heap.size (Iv 0 0) 9 r.Design.Nets U∧ownR C_Port J w.heap.size (Iv 0 0) 130 r.Design.Ports V∧ownR C_Wire J w.heap.size (SX w.heap.size J.heap.size Q) 140 r.Wires Q∧(∀ g q,P.ownBlock = some g → O.ownBlock = some q → g ≠ q)∧(∀ g q,U.ownBlock = some g → O.ownBlock = some q → g ≠ q)∧(∀ g q,U.ownBlock = some g → P.ownBlock = some q → g ≠ q)∧(∀ g q,V.ownBlock = some g → O.ownBlock = some q → g ≠ q)∧(∀ g q,V.ownBlock = some g → P.ownBlock = some q → g ≠ q)∧(∀ g q,V.ownBlock = some g → U.ownBlock = some q → g ≠ q)∧(∀ g q,Q.ownBlock = some g → O.ownBlock = some q → g ≠ q)∧(∀ g q,Q.ownBlock = some g → P.ownBlock = some q → g ≠ q)∧(∀ g q,Q.ownBlock = some g → U.ownBlock = some q → g ≠ q)∧(∀ g q,Q.ownBlock = some g → V.ownBlock = some q → g ≠ q)∧Ext w J):=by
  refine calls_ofD func7 rfl ntmps7 ?_;have J0:=Ext.refl w;unfold F_1w at hF;refine Rc 2 (Ef rfl (eff_box rfl rfl) ?_);rintro _ Y0 ⟨z,rfl,d0,e0,R0,A⟩;have A:Box Y0 z [a,b,d,e,s] 32:=A;have ⟨K0,j0⟩:=Et J0 R0;refine Ef rfl (eff_alloc rfl zn_46) ?_;rintro _ w0 ⟨t,rfl,f0,g0,y,B⟩;have ⟨L0,k0⟩:=Et K0 y;have A:=A.ext y;refine Ro 4 (Ef rfl (eff_alloc rfl zn_46) ?_);rintro _ x0 ⟨m,rfl,h0,i0,o,D⟩;have ⟨v,l0⟩:=Et L0 o;have A:=A.ext o;have B:=B.ext o;refine Ro 4 (Yl rfl (yfa rfl fo_32_0) (Yl rfl (yln (us:=[a]) rfl ag_24 (CellsAt.sub (Box.cells A) 0 1:CellsAt _ _ _ [a]) cn_24) ?_));have ⟨t0,V0,hF⟩:=bsome hF;refine Ef rfl (eca rfl gf_31 (W_32 V0 (by omega) (B0.oh hH v) :)) ?_;rintro _ y0 ⟨c,rfl,C,i⟩;have ⟨M0,m0⟩:=Et v i;have A:=A.ext i;have B:=B.ext i;have D:=D.ext i;have K:=ownR.blk C;refine Yl rfl (yfa rfl fo_46_0) (Ef rfl (est rfl D cn_39 (allc_cons (slRep.one (ownR.slN C nr nr (by omega))) allc_nil) rfl) ?_);rintro _ Z0 ⟨h,F0⟩;have ⟨f,n0⟩:=Eu M0 h (by omega);have A:=A.upd h (by omega);have B:=B.upd h (by omega);have C:=C.updN h (Nb.of K (by omega)) (by omega);have D:Box Z0 m [c,.slice none 0 0,.slice none 0 0,.slice none 0 0,.slice none 0 0] 46:=F0;refine Ro 4 (Yl rfl (yfa rfl fo_32_1) (Yl rfl (yln (us:=[b,d,e]) rfl ag_29 (CellsAt.sub (Box.cells A) 1 3:CellsAt _ _ _ [b,d,e]) cn_29) ?_));have ⟨u0,W0,hF⟩:=bsome hF;refine Ef rfl (eca rfl gf_32 (W_34 W0 (by omega) (C0.oh hH f) (D0.oh hH f) (E0.oh hH f) :)) ?_;rintro _ z0 ⟨j,k,l,rfl,E,F,G,S0,T0,U0,Z⟩;have ⟨N0,o0⟩:=Et f Z;have A:=A.ext Z;have B:=B.ext Z;have D:=D.ext Z;have C:=C.extN Z (by omega);have W:=ownR.blk E;have X:=ownR.blk F;have Y:=ownR.blk G;refine Yl rfl (yfa rfl fo_46_1) (Ef rfl (est rfl D cn_43 (allc_cons (slRep.one (ownR.slN E nr nr (by omega))) (allc_cons F.one (allc_cons G.one allc_nil))) rfl) ?_);rintro _ a0 ⟨L,G0⟩;have ⟨x,p0⟩:=Eu N0 L (by omega);have A:=A.upd L (by omega);have B:=B.upd L (by omega);have C:=C.updN L (Nb.of K (by omega)) (by omega);have E:=E.updN L (Nb.of W (by omega)) (by omega);have F:=F.upd L (Nb.of X (by omega));have G:=G.upd L (Nb.of Y (by omega));have D:Box a0 m [c,j,k,l,.slice none 0 0] 46:=G0;refine Ro 4 (Yl rfl (yfa rfl fo_32_2) (Yl rfl (ylb rfl ag_30 A rfl) ?_));have ⟨v0,X0,hF⟩:=bsome hF;refine Ef rfl (eca rfl gf_33 (W_1l X0 (by omega) (A0.oh hH x) :)) ?_;rintro p A1 ⟨_,rfl,I,N⟩;have ⟨O0,q0⟩:=Et x N;have B:=B.ext N;have D:=D.ext N;have C:=C.extN N (by omega);have E:=E.extN N (by omega);have F:=F.ext N;have G:=G.ext N;have S:=ownR.blk I;refine Yl rfl (yfa rfl fo_46_2) (Ef rfl (eff_store1 rfl rfl rfl D cn_44 (slRep.cells (ownR.slN I nr nr (by omega))) (slRep.one (ownR.slN I nr nr (by omega))) rfl) ?_);rintro _ b0 ⟨M,H0⟩;have ⟨P0,r0⟩:=Eu O0 M (by omega);have B:=B.upd M (by omega);have C:=C.updN M (Nb.of K (by omega)) (by omega);have E:=E.updN M (Nb.of W (by omega)) (by omega);have F:=F.upd M (Nb.of X (by omega));have G:=G.upd M (Nb.of Y (by omega));have I:=I.updN M (Nb.of S (by omega)) (by omega);have D:Box b0 m [c,j,k,l,p] 46:=H0;refine Ro 4 (Yl rfl (ynb rfl ag_46 D cn_46) (Ef rfl (est rfl B cn_46 (allc_cons (slRep.one (ownR.slN C nr nr (by omega))) (allc_cons (slRep.one (ownR.slN E nr nr (by omega))) (allc_cons F.one (allc_cons G.one (allc_cons (slRep.one (ownR.slN I nr nr (by omega))) allc_nil))))) rfl) ?_));rintro _ c0 ⟨T,I0⟩;have ⟨Q0,s0⟩:=Eu P0 T (by omega);have C:=C.updN T (Nb.of K (by omega)) (by omega);have E:=E.updN T (Nb.of W (by omega)) (by omega);have F:=F.upd T (Nb.of X (by omega));have G:=G.upd T (Nb.of Y (by omega));have I:=I.updN T (Nb.of S (by omega)) (by omega);have B:Box c0 t [c,j,k,l,p] 46:=I0;refine Ro 3 ?_;cases szt hF;exact NX.end (rs:=[.cell 2 46]) (vs:=[.agg #[c,j,k,l,p]]) rfl ⟨⟨t,rfl,box_load ag_46 cn_46 B⟩,trivial⟩ ⟨_,rfl,_,_,_,_,_,rfl,ownR.baseN (ownR.wideN C (by omega)) (by omega),ownR.baseN (ownR.wideN E (by omega)) (by omega),ownR.base F (by omega),ownR.base G (by omega),ownR.baseN (ownR.wideN I (by omega)) (by omega),(No.of W K (by omega)),(No.of X K (by omega)),S0,(No.of Y K (by omega)),T0,U0,(No.of S K (by omega)),(No.of S W (by omega)),(No.of S X (by omega)),(No.of S Y (by omega)),Q0⟩
def F_9_L1 (a0:List Int) (a1:List Int) (k0:Int→Option Bool):Nat→Int→Option Bool
  | 0, _=>none
  | m + 1, i7=>(bif decide (i7 < (a0.length:Int)) then ((getI a0 i7).bind fun x8=>((getI a1 i7).bind fun x17=>(bif (x8 != x17) then (some false) else (F_9_L1 a0 a1 k0 m (wrap .i64 (i7 + 1)))))) else (k0 i7))
def F_9 (n:Nat) (a0:List Int) (a1:List Int):Option Bool:=(bif (((a0.length:Int)) != ((a1.length:Int))) then (some false) else (F_9_L1 a0 a1 (fun i7=>(some true)) n 0))
theorem W_9 {E:List Int} {F:List Int} {r:Bool} {I J:Value} (hF:F_9 n E F = some r) (hH:H ≤ w.heap.size) (G:slRep (cInt .i64) w (Iv 0 H) E I) (K:slRep (cInt .i64) w (Iv 0 H) F J) :
    Calls prog 10 [I,J].toArray w (Ret fun u R => u = .bool r∧Ext w R):=by
  refine calls_ofD func10 rfl ntmps10 ?_;have D:=Ext.refl w;unfold F_9 at hF;refine Rc 9 (Yl rfl (yle rfl underlying33 (G.oh hH D)) (Ro 1 (Yl rfl (yle rfl underlying33 (K.oh hH D)) (Ro 3 (Wc rfl hF ?_ ?_)))))
  · intro hF;refine Rc 7 ?_;cases szt hF;exact Ne rfl rfl ⟨_,rfl,rfl,D⟩
  · intro hF;refine Rc 9 ?_;refine WC.loopD (fun C a wl => ∃ (B:Int),Kn 26 [(0,I),(1,J),(5,.i B)] a∧Ext w wl∧w.heap.size ≤ wl.heap.size∧F_9_L1 E F (fun B => (some true)) C B = some r) n ?_ ?_
    · intro a hK;exact ⟨0,hK.sub rfl,D,Nat.le_refl _,hF⟩
    · rintro C a c ⟨B,hK,A,X,hF⟩;revert a;change WC _ _ _ _ _ _
      cases C with
      | zero => exact nos hF
      | succ C =>
        rw [F_9_L1.eq_2] at hF;refine Rc 5 (Yl rfl (yle rfl underlying33 (G.oh hH A)) (Ro 3 (Wc rfl hF ?_ ?_)))
        · intro hF;refine Rc 5 (WC.quiet Tryz.hm (by kernel_rfl) (Qr 2 ?_));have ⟨d,P,hF⟩:=bsome hF;refine Qe rfl (yix rfl underlying33 cn_2 (G.oh hH A) P) ?_;rintro _ ⟨S,Y,_,rfl,U,rfl,M⟩;refine Qy rfl (ylc 0 rfl ag_2 M rfl rfl) (Qr 2 ?_);have ⟨e,Q,hF⟩:=bsome hF;refine Qe rfl (yix rfl underlying33 cn_2 (K.oh hH A) Q) ?_;rintro _ ⟨T,Z,_,rfl,V,rfl,N⟩;refine Qy rfl (ylc 0 rfl ag_2 N rfl rfl) (Qr 1 ?_);refine QL.done fun b O => ?_;have ⟨L,W⟩:=Et A O;refine Re 1 (Wc rfl hF ?_ ?_)
          · intro hF;refine Rc 11 ?_;cases szt hF;exact Ne rfl rfl ⟨_,rfl,rfl,L⟩
          · intro hF;refine Rc 9 ?_;intro a hK;exact ⟨C,nr,(wrap .i64 (B + 1)),hK.sub rfl,L,(by omega),hF⟩
        · intro hF;refine Rc 11 ?_;cases szt hF;exact Ne rfl rfl ⟨_,rfl,rfl,A⟩
def F_2d (n:Nat) (a0:S_Pin) (a1:S_Pin):Option Bool:=(bif (a0.Name.toList != a1.Name.toList) then (some false) else (bif (a0.Dir != a1.Dir) then (some false) else (bif (a0.Cap != a1.Cap) then (some false) else (bif (a0.Clock != a1.Clock) then (some false) else (some true)))))
theorem W_2d {A:S_Pin} {B:S_Pin} {r:Bool} (hF:F_2d n A B = some r) :
    Calls prog 160 [.agg #[.string A.Name,.i A.Dir,.i A.Cap,.bool A.Clock],.agg #[.string B.Name,.i B.Dir,.i B.Cap,.bool B.Clock]].toArray w (Ret fun u F => u = .bool r∧Ext w F):=by
  refine calls_ofD func160 rfl ntmps160 ?_;have J:=Ext.refl w;unfold F_2d at hF;refine Rc 2 (Ef rfl (eff_box rfl rfl) ?_);rintro _ F ⟨H,rfl,P,Q,L,C⟩;have C:Box F H [.string A.Name,.i A.Dir,.i A.Cap,.bool A.Clock] 82:=C;have ⟨K,S⟩:=Et J L;refine Ef rfl (eff_box rfl rfl) ?_;rintro _ M ⟨I,rfl,N,O,G,D⟩;have D:Box M I [.string B.Name,.i B.Dir,.i B.Cap,.bool B.Clock] 82:=D;have ⟨E,R⟩:=Et K G;have C:=C.ext G;refine Ro 6 (Yl rfl (yfa rfl fo_82_0) (Yl rfl (ylb rfl ag_9 C rfl) (Yl rfl (yfa rfl fo_82_0) (Yl rfl (ylb rfl ag_9 D rfl) (Ro 3 (Wc rfl hF ?_ ?_))))))
  · intro hF;refine Rc 7 ?_;cases szt hF;exact Ne rfl rfl ⟨_,rfl,rfl,E⟩
  · intro hF;refine Rc 5 (Yl rfl (yfa rfl fo_82_1) (Yl rfl (ylb rfl ag_2 C rfl) (Yl rfl (yfa rfl fo_82_1) (Yl rfl (ylb rfl ag_2 D rfl) (Ro 3 (Wc rfl hF ?_ ?_))))))
    · intro hF;refine Rc 7 ?_;cases szt hF;exact Ne rfl rfl ⟨_,rfl,rfl,E⟩
    · intro hF;refine Rc 5 (Yl rfl (yfa rfl fo_82_2) (Yl rfl (ylb rfl ag_2 C rfl) (Yl rfl (yfa rfl fo_82_2) (Yl rfl (ylb rfl ag_2 D rfl) (Ro 3 (Wc rfl hF ?_ ?_))))))
      · intro hF;refine Rc 7 ?_;cases szt hF;exact Ne rfl rfl ⟨_,rfl,rfl,E⟩
      · intro hF;refine Rc 5 (Yl rfl (yfa rfl fo_82_3) (Yl rfl (ylb rfl ag_4 C rfl) (Yl rfl (yfa rfl fo_82_3) (Yl rfl (ylb rfl ag_4 D rfl) (Yl rfl (yld_neb rfl underlying4 rfl rfl) (Ro 2 (Wc rfl hF ?_ ?_)))))))
        · intro hF;refine Rc 7 ?_;cases szt hF;exact Ne rfl rfl ⟨_,rfl,rfl,E⟩
        · intro hF;refine Rc 8 ?_;cases szt hF;exact Ne rfl rfl ⟨_,rfl,rfl,E⟩
def F_1m_L1 (n:Nat) (a0:List S_Pin) (a1:List S_Pin) (k0:Int→Option Bool):Nat→Int→Option Bool
  | 0, _=>none
  | m + 1, i7=>(bif decide (i7 < (a0.length:Int)) then ((getI a0 i7).bind fun x8=>((getI a1 i7).bind fun x17=>((F_2d n x8 x17).bind fun r26=>(bif (!r26) then (some false) else (F_1m_L1 n a0 a1 k0 m (wrap .i64 (i7 + 1))))))) else (k0 i7))
def F_1m (n:Nat) (a0:List S_Pin) (a1:List S_Pin):Option Bool:=(bif (((a0.length:Int)) != ((a1.length:Int))) then (some false) else (F_1m_L1 n a0 a1 (fun i7=>(some true)) n 0))
theorem W_1m {G:List S_Pin} {I:List S_Pin} {r:Bool} {K L:Value} (hF:F_1m n G I = some r) (hH:H ≤ w.heap.size) (J:slRep C_Pin w (Iv 0 H) G K) (M:slRep C_Pin w (Iv 0 H) I L) :
    Calls prog 144 [K,L].toArray w (Ret fun u W => u = .bool r∧Ext w W):=by
  refine calls_ofD func144 rfl ntmps144 ?_;have D:=Ext.refl w;unfold F_1m at hF;refine Rc 9 (Yl rfl (yle rfl underlying83 (J.oh hH D)) (Ro 1 (Yl rfl (yle rfl underlying83 (M.oh hH D)) (Ro 3 (Wc rfl hF ?_ ?_)))))
  · intro hF;refine Rc 7 ?_;cases szt hF;exact Ne rfl rfl ⟨_,rfl,rfl,D⟩
  · intro hF;refine Rc 9 ?_;refine WC.loopD (fun C a wl => ∃ (B:Int),Kn 27 [(0,K),(1,L),(5,.i B)] a∧Ext w wl∧w.heap.size ≤ wl.heap.size∧F_1m_L1 n G I (fun B => (some true)) C B = some r) n ?_ ?_
    · intro a hK;exact ⟨0,hK.sub rfl,D,Nat.le_refl _,hF⟩
    · rintro C a k ⟨B,hK,A,d,hF⟩;revert a;change WC _ _ _ _ _ _
      cases C with
      | zero => exact nos hF
      | succ C =>
        rw [F_1m_L1.eq_2] at hF;refine Rc 5 (Yl rfl (yle rfl underlying83 (J.oh hH A)) (Ro 3 (Wc rfl hF ?_ ?_)))
        · intro hF;refine Rc 5 (WC.quiet Tryz.hm (by kernel_rfl) (Qr 2 ?_));have ⟨E,U,hF⟩:=bsome hF;refine Qe rfl (yix rfl underlying83 cn_82 (J.oh hH A) U) ?_;rintro _ ⟨X,e,h,rfl,Z,Q,O⟩;obtain rfl:=C_Pin_open Q;refine Qy rfl (yln (us:=[.string E.Name,.i E.Dir,.i E.Cap,.bool E.Clock]) rfl ag_82 O cn_82) (Qr 2 ?_);have ⟨F,V,hF⟩:=bsome hF;refine Qe rfl (yix rfl underlying83 cn_82 (M.oh hH A) V) ?_;rintro _ ⟨Y,f,i,rfl,b,R,P⟩;obtain rfl:=C_Pin_open R;refine Qy rfl (yln (us:=[.string F.Name,.i F.Dir,.i F.Cap,.bool F.Clock]) rfl ag_82 P cn_82) ?_;have ⟨g,S,hF⟩:=bsome hF;refine Ql rfl (qca rfl gf_160 fun w' hw' => (W_2d S :)) ?_;refine Qr 1 ?_;refine QL.done fun j T => ?_;have ⟨N,c⟩:=Et A T;refine Re 1 (Wc rfl hF ?_ ?_)
          · intro hF;refine Rc 11 ?_;cases szt hF;exact Ne rfl rfl ⟨_,rfl,rfl,N⟩
          · intro hF;refine Rc 9 ?_;intro a hK;exact ⟨C,nr,(wrap .i64 (B + 1)),hK.sub rfl,N,(by omega),hF⟩
        · intro hF;refine Rc 11 ?_;cases szt hF;exact Ne rfl rfl ⟨_,rfl,rfl,A⟩
def F_2e (n:Nat) (a0:S_Table) (a1:S_Table):Option Bool:=((F_9 n a0.Slews a1.Slews).bind fun r27=>(bif (!r27) then (some false) else ((F_9 n a0.Loads a1.Loads).bind fun r33=>(bif (!r33) then (some false) else ((F_9 n a0.Values a1.Values).bind fun r39=>(bif (!r39) then (some false) else (some true)))))))
theorem W_2e {C:S_Table} {D:S_Table} {r:Bool} {K M N O P L:Value} (hF:F_2e n C D = some r) (hH:H ≤ w.heap.size) (W:slRep (cInt .i64) w (Iv 0 H) C.Slews K) (X:slRep (cInt .i64) w (Iv 0 H) C.Loads M) (Y:slRep (cInt .i64) w (Iv 0 H) C.Values N) (Z:slRep (cInt .i64) w (Iv 0 H) D.Slews O) (U:slRep (cInt .i64) w (Iv 0 H) D.Loads P) (V:slRep (cInt .i64) w (Iv 0 H) D.Values L) :
    Calls prog 183 [.agg #[K,M,N],.agg #[O,P,L]].toArray w (Ret fun u i => u = .bool r∧Ext w i):=by
  refine calls_ofD func183 rfl ntmps183 ?_;have a:=Ext.refl w;unfold F_2e at hF;refine Rc 2 (Ef rfl (eff_box rfl rfl) ?_);rintro _ h ⟨S,rfl,k,l,c,A⟩;have A:Box h S [K,M,N] 231:=A;have ⟨b,p⟩:=Et a c;refine Ef rfl (eff_box rfl rfl) ?_;rintro _ j ⟨T,rfl,m,o,R,B⟩;have B:Box j T [O,P,L] 231:=B;have ⟨G,q⟩:=Et b R;have A:=A.ext R;refine Ro 6 (Yl rfl (yfa rfl fo_231_0) (Yl rfl (ylb rfl ag_33 A rfl) (Yl rfl (yfa rfl fo_231_0) (Yl rfl (ylb rfl ag_33 B rfl) ?_))));have ⟨x,d,hF⟩:=bsome hF;refine Ef rfl (eca rfl gf_10 (W_9 d (by omega) (W.oh hH G) (Z.oh hH G) :)) ?_;rintro _ A0 ⟨rfl,I⟩;have ⟨E,s⟩:=Et G I;have A:=A.ext I;have B:=B.ext I;refine Ro 3 (Wc rfl hF ?_ ?_)
  · intro hF;refine Rc 7 ?_;cases szt hF;exact Ne rfl rfl ⟨_,rfl,rfl,E⟩
  · intro hF;refine Rc 5 (Yl rfl (yfa rfl fo_231_1) (Yl rfl (ylb rfl ag_33 A rfl) (Yl rfl (yfa rfl fo_231_1) (Yl rfl (ylb rfl ag_33 B rfl) ?_))));have ⟨y,e,hF⟩:=bsome hF;refine Ef rfl (eca rfl gf_10 (W_9 e (by omega) (X.oh hH E) (U.oh hH E) :)) ?_;rintro _ B0 ⟨rfl,J⟩;have ⟨F,t⟩:=Et E J;have A:=A.ext J;have B:=B.ext J;refine Ro 3 (Wc rfl hF ?_ ?_)
    · intro hF;refine Rc 7 ?_;cases szt hF;exact Ne rfl rfl ⟨_,rfl,rfl,F⟩
    · intro hF;refine Rc 5 (Yl rfl (yfa rfl fo_231_2) (Yl rfl (ylb rfl ag_33 A rfl) (Yl rfl (yfa rfl fo_231_2) (Yl rfl (ylb rfl ag_33 B rfl) ?_))));have ⟨z,f,hF⟩:=bsome hF;refine Ef rfl (eca rfl gf_10 (W_9 f (by omega) (Y.oh hH F) (V.oh hH F) :)) ?_;rintro _ C0 ⟨rfl,g⟩;have ⟨Q,v⟩:=Et F g;refine Ro 3 (Wc rfl hF ?_ ?_)
      · intro hF;refine Rc 7 ?_;cases szt hF;exact Ne rfl rfl ⟨_,rfl,rfl,Q⟩
      · intro hF;refine Rc 8 ?_;cases szt hF;exact Ne rfl rfl ⟨_,rfl,rfl,Q⟩
def F_0k_L1 (n:Nat) (a0:List S_Table) (a1:List S_Table) (k0:Int→Option Bool):Nat→Int→Option Bool
  | 0, _=>none
  | m + 1, i7=>(bif decide (i7 < (a0.length:Int)) then ((getI a0 i7).bind fun x8=>((getI a1 i7).bind fun x23=>((F_2e n x8 x23).bind fun r38=>(bif (!r38) then (some false) else (F_0k_L1 n a0 a1 k0 m (wrap .i64 (i7 + 1))))))) else (k0 i7))
def F_0k (n:Nat) (a0:List S_Table) (a1:List S_Table):Option Bool:=(bif (((a0.length:Int)) != ((a1.length:Int))) then (some false) else (F_0k_L1 n a0 a1 (fun i7=>(some true)) n 0))
theorem W_0k {E:List S_Table} {F:List S_Table} {r:Bool} {I J:Value} (hF:F_0k n E F = some r) (hH:H ≤ w.heap.size) (G:slRep C_Table w (Iv 0 H) E I) (K:slRep C_Table w (Iv 0 H) F J) :
    Calls prog 172 [I,J].toArray w (Ret fun u h => u = .bool r∧Ext w h):=by
  refine calls_ofD func172 rfl ntmps172 ?_;have D:=Ext.refl w;unfold F_0k at hF;refine Rc 9 (Yl rfl (yle rfl underlying72 (G.oh hH D)) (Ro 1 (Yl rfl (yle rfl underlying72 (K.oh hH D)) (Ro 3 (Wc rfl hF ?_ ?_)))))
  · intro hF;refine Rc 7 ?_;cases szt hF;exact Ne rfl rfl ⟨_,rfl,rfl,D⟩
  · intro hF;refine Rc 9 ?_;refine WC.loopD (fun C a wl => ∃ (B:Int),Kn 27 [(0,I),(1,J),(5,.i B)] a∧Ext w wl∧w.heap.size ≤ wl.heap.size∧F_0k_L1 n E F (fun B => (some true)) C B = some r) n ?_ ?_
    · intro a hK;exact ⟨0,hK.sub rfl,D,Nat.le_refl _,hF⟩
    · rintro C a y ⟨B,hK,A,o,hF⟩;revert a;change WC _ _ _ _ _ _
      cases C with
      | zero => exact nos hF
      | succ C =>
        rw [F_0k_L1.eq_2] at hF;refine Rc 5 (Yl rfl (yle rfl underlying72 (G.oh hH A)) (Ro 3 (Wc rfl hF ?_ ?_)))
        · intro hF;refine Rc 5 (WC.quiet Tryz.hm (by kernel_rfl) (Qr 2 ?_));have ⟨z,Y,hF⟩:=bsome hF;refine Qe rfl (yix rfl underlying72 cn_231 (G.oh hH A) Y) ?_;rintro _ ⟨i,p,t,rfl,k,O,M⟩;obtain ⟨b,c,d,rfl,R,S,T⟩:=C_Table_open O;refine Qy rfl (yln (us:=[b,c,d]) rfl ag_231 M cn_231) (Qr 2 ?_);have ⟨A0,Z,hF⟩:=bsome hF;refine Qe rfl (yix rfl underlying72 cn_231 (K.oh hH A) Z) ?_;rintro _ ⟨j,q,v,rfl,l,P,N⟩;obtain ⟨e,f,g,rfl,U,V,W⟩:=C_Table_open P;refine Qy rfl (yln (us:=[e,f,g]) rfl ag_231 N cn_231) ?_;have ⟨s,Q,hF⟩:=bsome hF;refine Ql rfl (qca rfl gf_183 fun w' hw' => (W_2e Q (Nat.le_trans (by omega) (hw').size) (R.old hw' (by omega)) (S.old hw' (by omega)) (T.old hw' (by omega)) (U.old hw' (by omega)) (V.old hw' (by omega)) (W.old hw' (by omega)) :)) ?_;refine Qr 1 ?_;refine QL.done fun x X => ?_;have ⟨L,m⟩:=Et A X;refine Re 1 (Wc rfl hF ?_ ?_)
          · intro hF;refine Rc 11 ?_;cases szt hF;exact Ne rfl rfl ⟨_,rfl,rfl,L⟩
          · intro hF;refine Rc 9 ?_;intro a hK;exact ⟨C,nr,(wrap .i64 (B + 1)),hK.sub rfl,L,(by omega),hF⟩
        · intro hF;refine Rc 11 ?_;cases szt hF;exact Ne rfl rfl ⟨_,rfl,rfl,A⟩
def F_2f (n:Nat) (a0:S_Arc) (a1:S_Arc):Option Bool:=(bif (a0.Kind != a1.Kind) then (some false) else (bif (a0.From != a1.From) then (some false) else (bif (a0.To != a1.To) then (some false) else (bif (a0.Sense != a1.Sense) then (some false) else ((F_0k n a0.Delay a1.Delay).bind fun r23=>(bif (!r23) then (some false) else ((F_0k n a0.Slew a1.Slew).bind fun r29=>(bif (!r29) then (some false) else (some true)))))))))
theorem W_2f {B:S_Arc} {C:S_Arc} {r:Bool} {I J K L:Value} (hF:F_2f n B C = some r) (hH:H ≤ w.heap.size) (Q:slRep C_Table w (Iv 0 H) B.Delay I) (R:slRep C_Table w (Iv 0 H) B.Slew J) (S:slRep C_Table w (Iv 0 H) C.Delay K) (T:slRep C_Table w (Iv 0 H) C.Slew L) :
    Calls prog 161 [.agg #[.i B.Kind,.i B.From,.i B.To,.i B.Sense,I,J],.agg #[.i C.Kind,.i C.From,.i C.To,.i C.Sense,K,L]].toArray w (Ret fun u c => u = .bool r∧Ext w c):=by
  refine calls_ofD func161 rfl ntmps161 ?_;have U:=Ext.refl w;unfold F_2f at hF;refine Rc 2 (Ef rfl (eff_box rfl rfl) ?_);rintro _ a ⟨P,rfl,d,e,W,A⟩;have A:Box a P [.i B.Kind,.i B.From,.i B.To,.i B.Sense,I,J] 74:=A;have ⟨V,h⟩:=Et U W;refine Ef rfl (eff_box rfl rfl) ?_;rintro _ b ⟨O,rfl,f,g,N,D⟩;have D:Box b O [.i C.Kind,.i C.From,.i C.To,.i C.Sense,K,L] 74:=D;have ⟨E,i⟩:=Et V N;have A:=A.ext N;refine Ro 6 (Yl rfl (yfa rfl fo_74_0) (Yl rfl (ylb rfl ag_2 A rfl) (Yl rfl (yfa rfl fo_74_0) (Yl rfl (ylb rfl ag_2 D rfl) (Ro 3 (Wc rfl hF ?_ ?_))))))
  · intro hF;refine Rc 7 ?_;cases szt hF;exact Ne rfl rfl ⟨_,rfl,rfl,E⟩
  · intro hF;refine Rc 5 (Yl rfl (yfa rfl fo_74_1) (Yl rfl (ylb rfl ag_2 A rfl) (Yl rfl (yfa rfl fo_74_1) (Yl rfl (ylb rfl ag_2 D rfl) (Ro 3 (Wc rfl hF ?_ ?_))))))
    · intro hF;refine Rc 7 ?_;cases szt hF;exact Ne rfl rfl ⟨_,rfl,rfl,E⟩
    · intro hF;refine Rc 5 (Yl rfl (yfa rfl fo_74_2) (Yl rfl (ylb rfl ag_2 A rfl) (Yl rfl (yfa rfl fo_74_2) (Yl rfl (ylb rfl ag_2 D rfl) (Ro 3 (Wc rfl hF ?_ ?_))))))
      · intro hF;refine Rc 7 ?_;cases szt hF;exact Ne rfl rfl ⟨_,rfl,rfl,E⟩
      · intro hF;refine Rc 5 (Yl rfl (yfa rfl fo_74_3) (Yl rfl (ylb rfl ag_2 A rfl) (Yl rfl (yfa rfl fo_74_3) (Yl rfl (ylb rfl ag_2 D rfl) (Ro 3 (Wc rfl hF ?_ ?_))))))
        · intro hF;refine Rc 7 ?_;cases szt hF;exact Ne rfl rfl ⟨_,rfl,rfl,E⟩
        · intro hF;refine Rc 5 (Yl rfl (yfa rfl fo_74_4) (Yl rfl (ylb rfl ag_72 A rfl) (Yl rfl (yfa rfl fo_74_4) (Yl rfl (ylb rfl ag_72 D rfl) ?_))));have ⟨l,X,hF⟩:=bsome hF;refine Ef rfl (eca rfl gf_172 (W_0k X (by omega) (Q.oh hH E) (S.oh hH E) :)) ?_;rintro _ o ⟨rfl,G⟩;have ⟨F,j⟩:=Et E G;have A:=A.ext G;have D:=D.ext G;refine Ro 3 (Wc rfl hF ?_ ?_)
          · intro hF;refine Rc 7 ?_;cases szt hF;exact Ne rfl rfl ⟨_,rfl,rfl,F⟩
          · intro hF;refine Rc 5 (Yl rfl (yfa rfl fo_74_5) (Yl rfl (ylb rfl ag_72 A rfl) (Yl rfl (yfa rfl fo_74_5) (Yl rfl (ylb rfl ag_72 D rfl) ?_))));have ⟨m,Y,hF⟩:=bsome hF;refine Ef rfl (eca rfl gf_172 (W_0k Y (by omega) (R.oh hH F) (T.oh hH F) :)) ?_;rintro _ p ⟨rfl,Z⟩;have ⟨M,k⟩:=Et F Z;refine Ro 3 (Wc rfl hF ?_ ?_)
            · intro hF;refine Rc 7 ?_;cases szt hF;exact Ne rfl rfl ⟨_,rfl,rfl,M⟩
            · intro hF;refine Rc 8 ?_;cases szt hF;exact Ne rfl rfl ⟨_,rfl,rfl,M⟩
def F_1n_L1 (n:Nat) (a0:List S_Arc) (a1:List S_Arc) (k0:Int→Option Bool):Nat→Int→Option Bool
  | 0, _=>none
  | m + 1, i7=>(bif decide (i7 < (a0.length:Int)) then ((getI a0 i7).bind fun x8=>((getI a1 i7).bind fun x21=>((F_2f n x8 x21).bind fun r34=>(bif (!r34) then (some false) else (F_1n_L1 n a0 a1 k0 m (wrap .i64 (i7 + 1))))))) else (k0 i7))
def F_1n (n:Nat) (a0:List S_Arc) (a1:List S_Arc):Option Bool:=(bif (((a0.length:Int)) != ((a1.length:Int))) then (some false) else (F_1n_L1 n a0 a1 (fun i7=>(some true)) n 0))
theorem W_1n {G:List S_Arc} {I:List S_Arc} {r:Bool} {K L:Value} (hF:F_1n n G I = some r) (hH:H ≤ w.heap.size) (J:slRep C_Arc w (Iv 0 H) G K) (M:slRep C_Arc w (Iv 0 H) I L) :
    Calls prog 145 [K,L].toArray w (Ret fun u f => u = .bool r∧Ext w f):=by
  refine calls_ofD func145 rfl ntmps145 ?_;have D:=Ext.refl w;unfold F_1n at hF;refine Rc 9 (Yl rfl (yle rfl underlying84 (J.oh hH D)) (Ro 1 (Yl rfl (yle rfl underlying84 (M.oh hH D)) (Ro 3 (Wc rfl hF ?_ ?_)))))
  · intro hF;refine Rc 7 ?_;cases szt hF;exact Ne rfl rfl ⟨_,rfl,rfl,D⟩
  · intro hF;refine Rc 9 ?_;refine WC.loopD (fun C a wl => ∃ (B:Int),Kn 27 [(0,K),(1,L),(5,.i B)] a∧Ext w wl∧w.heap.size ≤ wl.heap.size∧F_1n_L1 n G I (fun B => (some true)) C B = some r) n ?_ ?_
    · intro a hK;exact ⟨0,hK.sub rfl,D,Nat.le_refl _,hF⟩
    · rintro C a v ⟨B,hK,A,l,hF⟩;revert a;change WC _ _ _ _ _ _
      cases C with
      | zero => exact nos hF
      | succ C =>
        rw [F_1n_L1.eq_2] at hF;refine Rc 5 (Yl rfl (yle rfl underlying84 (J.oh hH A)) (Ro 3 (Wc rfl hF ?_ ?_)))
        · intro hF;refine Rc 5 (WC.quiet Tryz.hm (by kernel_rfl) (Qr 2 ?_));have ⟨E,Y,hF⟩:=bsome hF;refine Qe rfl (yix rfl underlying84 cn_74 (J.oh hH A) Y) ?_;rintro _ ⟨g,m,q,rfl,i,Q,O⟩;obtain ⟨b,c,rfl,T,U⟩:=C_Arc_open Q;refine Qy rfl (yln (us:=[.i E.Kind,.i E.From,.i E.To,.i E.Sense,b,c]) rfl ag_74 O cn_74) (Qr 2 ?_);have ⟨F,Z,hF⟩:=bsome hF;refine Qe rfl (yix rfl underlying84 cn_74 (M.oh hH A) Z) ?_;rintro _ ⟨h,o,s,rfl,j,R,P⟩;obtain ⟨d,e,rfl,V,W⟩:=C_Arc_open R;refine Qy rfl (yln (us:=[.i F.Kind,.i F.From,.i F.To,.i F.Sense,d,e]) rfl ag_74 P cn_74) ?_;have ⟨p,S,hF⟩:=bsome hF;refine Ql rfl (qca rfl gf_161 fun w' hw' => (W_2f S (Nat.le_trans (by omega) (hw').size) (T.old hw' (by omega)) (U.old hw' (by omega)) (V.old hw' (by omega)) (W.old hw' (by omega)) :)) ?_;refine Qr 1 ?_;refine QL.done fun t X => ?_;have ⟨N,k⟩:=Et A X;refine Re 1 (Wc rfl hF ?_ ?_)
          · intro hF;refine Rc 11 ?_;cases szt hF;exact Ne rfl rfl ⟨_,rfl,rfl,N⟩
          · intro hF;refine Rc 9 ?_;intro a hK;exact ⟨C,nr,(wrap .i64 (B + 1)),hK.sub rfl,N,(by omega),hF⟩
        · intro hF;refine Rc 11 ?_;cases szt hF;exact Ne rfl rfl ⟨_,rfl,rfl,A⟩
def F_2g (n:Nat) (a0:S_Cell) (a1:S_Cell):Option Bool:=(bif (a0.Name.toList != a1.Name.toList) then (some false) else (bif (a0.Kind != a1.Kind) then (some false) else ((F_1m n a0.Pins a1.Pins).bind fun r27=>(bif (!r27) then (some false) else ((F_1n n a0.Arcs a1.Arcs).bind fun r33=>(bif (!r33) then (some false) else ((F_9 n a0.Truth a1.Truth).bind fun r39=>(bif (!r39) then (some false) else (bif (a0.Leak != a1.Leak) then (some false) else (bif (a0.Energy != a1.Energy) then (some false) else (some true)))))))))))
theorem W_2g {C:S_Cell} {D:S_Cell} {r:Bool} {M O P Q R N:Value} (hF:F_2g n C D = some r) (hH:H ≤ w.heap.size) (X:slRep C_Pin w (Iv 0 H) C.Pins M) (Y:slRep C_Arc w (Iv 0 H) C.Arcs O) (Z:slRep (cInt .i64) w (Iv 0 H) C.Truth P) (a:slRep C_Pin w (Iv 0 H) D.Pins Q) (V:slRep C_Arc w (Iv 0 H) D.Arcs R) (W:slRep (cInt .i64) w (Iv 0 H) D.Truth N) :
    Calls prog 116 [.agg #[.string C.Name,.i C.Kind,M,O,P,.i C.Leak,.i C.Energy],.agg #[.string D.Name,.i D.Kind,Q,R,N,.i D.Leak,.i D.Energy]].toArray w (Ret fun u i => u = .bool r∧Ext w i):=by
  refine calls_ofD func116 rfl ntmps116 ?_;have b:=Ext.refl w;unfold F_2g at hF;refine Rc 2 (Ef rfl (eff_box rfl rfl) ?_);rintro _ h ⟨T,rfl,k,l,d,A⟩;have A:Box h T [.string C.Name,.i C.Kind,M,O,P,.i C.Leak,.i C.Energy] 86:=A;have ⟨c,p⟩:=Et b d;refine Ef rfl (eff_box rfl rfl) ?_;rintro _ j ⟨U,rfl,m,o,S,B⟩;have B:Box j U [.string D.Name,.i D.Kind,Q,R,N,.i D.Leak,.i D.Energy] 86:=B;have ⟨E,q⟩:=Et c S;have A:=A.ext S;refine Ro 6 (Yl rfl (yfa rfl fo_86_0) (Yl rfl (ylb rfl ag_9 A rfl) (Yl rfl (yfa rfl fo_86_0) (Yl rfl (ylb rfl ag_9 B rfl) (Ro 3 (Wc rfl hF ?_ ?_))))))
  · intro hF;refine Rc 7 ?_;cases szt hF;exact Ne rfl rfl ⟨_,rfl,rfl,E⟩
  · intro hF;refine Rc 5 (Yl rfl (yfa rfl fo_86_1) (Yl rfl (ylb rfl ag_2 A rfl) (Yl rfl (yfa rfl fo_86_1) (Yl rfl (ylb rfl ag_2 B rfl) (Ro 3 (Wc rfl hF ?_ ?_))))))
    · intro hF;refine Rc 7 ?_;cases szt hF;exact Ne rfl rfl ⟨_,rfl,rfl,E⟩
    · intro hF;refine Rc 5 (Yl rfl (yfa rfl fo_86_2) (Yl rfl (ylb rfl ag_83 A rfl) (Yl rfl (yfa rfl fo_86_2) (Yl rfl (ylb rfl ag_83 B rfl) ?_))));have ⟨x,e,hF⟩:=bsome hF;refine Ef rfl (eca rfl gf_144 (W_1m e (by omega) (X.oh hH E) (a.oh hH E) :)) ?_;rintro _ A0 ⟨rfl,J⟩;have ⟨F,s⟩:=Et E J;have A:=A.ext J;have B:=B.ext J;refine Ro 3 (Wc rfl hF ?_ ?_)
      · intro hF;refine Rc 7 ?_;cases szt hF;exact Ne rfl rfl ⟨_,rfl,rfl,F⟩
      · intro hF;refine Rc 5 (Yl rfl (yfa rfl fo_86_3) (Yl rfl (ylb rfl ag_84 A rfl) (Yl rfl (yfa rfl fo_86_3) (Yl rfl (ylb rfl ag_84 B rfl) ?_))));have ⟨y,f,hF⟩:=bsome hF;refine Ef rfl (eca rfl gf_145 (W_1n f (by omega) (Y.oh hH F) (V.oh hH F) :)) ?_;rintro _ B0 ⟨rfl,K⟩;have ⟨G,t⟩:=Et F K;have A:=A.ext K;have B:=B.ext K;refine Ro 3 (Wc rfl hF ?_ ?_)
        · intro hF;refine Rc 7 ?_;cases szt hF;exact Ne rfl rfl ⟨_,rfl,rfl,G⟩
        · intro hF;refine Rc 5 (Yl rfl (yfa rfl fo_86_4) (Yl rfl (ylb rfl ag_33 A rfl) (Yl rfl (yfa rfl fo_86_4) (Yl rfl (ylb rfl ag_33 B rfl) ?_))));have ⟨z,g,hF⟩:=bsome hF;refine Ef rfl (eca rfl gf_10 (W_9 g (by omega) (Z.oh hH G) (W.oh hH G) :)) ?_;rintro _ C0 ⟨rfl,L⟩;have ⟨I,v⟩:=Et G L;have A:=A.ext L;have B:=B.ext L;refine Ro 3 (Wc rfl hF ?_ ?_)
          · intro hF;refine Rc 7 ?_;cases szt hF;exact Ne rfl rfl ⟨_,rfl,rfl,I⟩
          · intro hF;refine Rc 5 (Yl rfl (yfa rfl fo_86_5) (Yl rfl (ylb rfl ag_2 A rfl) (Yl rfl (yfa rfl fo_86_5) (Yl rfl (ylb rfl ag_2 B rfl) (Ro 3 (Wc rfl hF ?_ ?_))))))
            · intro hF;refine Rc 7 ?_;cases szt hF;exact Ne rfl rfl ⟨_,rfl,rfl,I⟩
            · intro hF;refine Rc 5 (Yl rfl (yfa rfl fo_86_6) (Yl rfl (ylb rfl ag_2 A rfl) (Yl rfl (yfa rfl fo_86_6) (Yl rfl (ylb rfl ag_2 B rfl) (Ro 3 (Wc rfl hF ?_ ?_))))))
              · intro hF;refine Rc 7 ?_;cases szt hF;exact Ne rfl rfl ⟨_,rfl,rfl,I⟩
              · intro hF;refine Rc 8 ?_;cases szt hF;exact Ne rfl rfl ⟨_,rfl,rfl,I⟩
def F_1o_L1 (n:Nat) (a0:List S_Cell) (a1:List S_Cell) (k0:Int→Option Bool):Nat→Int→Option Bool
  | 0, _=>none
  | m + 1, i7=>(bif decide (i7 < (a0.length:Int)) then ((getI a0 i7).bind fun x8=>((getI a1 i7).bind fun x23=>((F_2g n x8 x23).bind fun r38=>(bif (!r38) then (some false) else (F_1o_L1 n a0 a1 k0 m (wrap .i64 (i7 + 1))))))) else (k0 i7))
def F_1o (n:Nat) (a0:List S_Cell) (a1:List S_Cell):Option Bool:=(bif (((a0.length:Int)) != ((a1.length:Int))) then (some false) else (F_1o_L1 n a0 a1 (fun i7=>(some true)) n 0))
theorem W_1o {G:List S_Cell} {I:List S_Cell} {r:Bool} {K L:Value} (hF:F_1o n G I = some r) (hH:H ≤ w.heap.size) (J:slRep C_Cell w (Iv 0 H) G K) (M:slRep C_Cell w (Iv 0 H) I L) :
    Calls prog 80 [K,L].toArray w (Ret fun u j => u = .bool r∧Ext w j):=by
  refine calls_ofD func80 rfl ntmps80 ?_;have D:=Ext.refl w;unfold F_1o at hF;refine Rc 9 (Yl rfl (yle rfl underlying37 (J.oh hH D)) (Ro 1 (Yl rfl (yle rfl underlying37 (M.oh hH D)) (Ro 3 (Wc rfl hF ?_ ?_)))))
  · intro hF;refine Rc 7 ?_;cases szt hF;exact Ne rfl rfl ⟨_,rfl,rfl,D⟩
  · intro hF;refine Rc 9 ?_;refine WC.loopD (fun C a wl => ∃ (B:Int),Kn 27 [(0,K),(1,L),(5,.i B)] a∧Ext w wl∧w.heap.size ≤ wl.heap.size∧F_1o_L1 n G I (fun B => (some true)) C B = some r) n ?_ ?_
    · intro a hK;exact ⟨0,hK.sub rfl,D,Nat.le_refl _,hF⟩
    · rintro C a A0 ⟨B,hK,A,q,hF⟩;revert a;change WC _ _ _ _ _ _
      cases C with
      | zero => exact nos hF
      | succ C =>
        rw [F_1o_L1.eq_2] at hF;refine Rc 5 (Yl rfl (yle rfl underlying37 (J.oh hH A)) (Ro 3 (Wc rfl hF ?_ ?_)))
        · intro hF;refine Rc 5 (WC.quiet Tryz.hm (by kernel_rfl) (Qr 2 ?_));have ⟨E,b,hF⟩:=bsome hF;refine Qe rfl (yix rfl underlying37 cn_86 (J.oh hH A) b) ?_;rintro _ ⟨k,s,x,rfl,m,Q,O⟩;obtain ⟨d,e,f,rfl,T,U,V⟩:=C_Cell_open Q;refine Qy rfl (yln (us:=[.string E.Name,.i E.Kind,d,e,f,.i E.Leak,.i E.Energy]) rfl ag_86 O cn_86) (Qr 2 ?_);have ⟨F,c,hF⟩:=bsome hF;refine Qe rfl (yix rfl underlying37 cn_86 (M.oh hH A) c) ?_;rintro _ ⟨l,t,y,rfl,o,R,P⟩;obtain ⟨g,h,i,rfl,W,X,Y⟩:=C_Cell_open R;refine Qy rfl (yln (us:=[.string F.Name,.i F.Kind,g,h,i,.i F.Leak,.i F.Energy]) rfl ag_86 P cn_86) ?_;have ⟨v,S,hF⟩:=bsome hF;refine Ql rfl (qca rfl gf_116 fun w' hw' => (W_2g S (Nat.le_trans (by omega) (hw').size) (T.old hw' (by omega)) (U.old hw' (by omega)) (V.old hw' (by omega)) (W.old hw' (by omega)) (X.old hw' (by omega)) (Y.old hw' (by omega)) :)) ?_;refine Qr 1 ?_;refine QL.done fun z Z => ?_;have ⟨N,p⟩:=Et A Z;refine Re 1 (Wc rfl hF ?_ ?_)
          · intro hF;refine Rc 11 ?_;cases szt hF;exact Ne rfl rfl ⟨_,rfl,rfl,N⟩
          · intro hF;refine Rc 9 ?_;intro a hK;exact ⟨C,nr,(wrap .i64 (B + 1)),hK.sub rfl,N,(by omega),hF⟩
        · intro hF;refine Rc 11 ?_;cases szt hF;exact Ne rfl rfl ⟨_,rfl,rfl,A⟩
def F_35 (n:Nat) (a0:S_Library) (a1:S_Library):Option Bool:=((F_1o n a0.Cells a1.Cells).bind fun r19=>(bif (!r19) then (some false) else (some true)))
theorem W_35 {F:S_Library} {G:S_Library} {r:Bool} {D E:Value} (hF:F_35 n F G = some r) (hH:H ≤ w.heap.size) (M:slRep C_Cell w (Iv 0 H) F.Cells D) (N:slRep C_Cell w (Iv 0 H) G.Cells E) :
    Calls prog 39 [.agg #[D],.agg #[E]].toArray w (Ret fun u U => u = .bool r∧Ext w U):=by
  refine calls_ofD func39 rfl ntmps39 ?_;have O:=Ext.refl w;unfold F_35 at hF;refine Rc 2 (Ef rfl (eff_box rfl rfl) ?_);rintro _ V ⟨L,rfl,Y,Z,Q,A⟩;have A:Box V L [D] 39:=A;have ⟨P,a⟩:=Et O Q;refine Ef rfl (eff_box rfl rfl) ?_;rintro _ T ⟨K,rfl,W,X,J,B⟩;have B:Box T K [E] 39:=B;have ⟨C,b⟩:=Et P J;have A:=A.ext J;refine Ro 6 (Yl rfl (yfa rfl fo_39_0) (Yl rfl (ylb rfl ag_37 A rfl) (Yl rfl (yfa rfl fo_39_0) (Yl rfl (ylb rfl ag_37 B rfl) ?_))));have ⟨d,R,hF⟩:=bsome hF;refine Ef rfl (eca rfl gf_80 (W_1o R (by omega) (M.oh hH C) (N.oh hH C) :)) ?_;rintro _ e ⟨rfl,S⟩;have ⟨I,c⟩:=Et C S;refine Ro 3 (Wc rfl hF ?_ ?_)
  · intro hF;refine Rc 7 ?_;cases szt hF;exact Ne rfl rfl ⟨_,rfl,rfl,I⟩
  · intro hF;refine Rc 8 ?_;cases szt hF;exact Ne rfl rfl ⟨_,rfl,rfl,I⟩
def F_2h (n:Nat) (a0:S_Instance) (a1:S_Instance):Option Bool:=(bif (a0.Name.toList != a1.Name.toList) then (some false) else (bif (a0.Cell != a1.Cell) then (some false) else ((F_9 n a0.Nets a1.Nets).bind fun r19=>(bif (!r19) then (some false) else (some true)))))
theorem W_2h {B:S_Instance} {C:S_Instance} {r:Bool} {F G:Value} (hF:F_2h n B C = some r) (hH:H ≤ w.heap.size) (M:slRep (cInt .i64) w (Iv 0 H) B.Nets F) (N:slRep (cInt .i64) w (Iv 0 H) C.Nets G) :
    Calls prog 117 [.agg #[.string B.Name,.i B.Cell,F],.agg #[.string C.Name,.i C.Cell,G]].toArray w (Ret fun u U => u = .bool r∧Ext w U):=by
  refine calls_ofD func117 rfl ntmps117 ?_;have O:=Ext.refl w;unfold F_2h at hF;refine Rc 2 (Ef rfl (eff_box rfl rfl) ?_);rintro _ V ⟨L,rfl,Y,Z,Q,A⟩;have A:Box V L [.string B.Name,.i B.Cell,F] 88:=A;have ⟨P,a⟩:=Et O Q;refine Ef rfl (eff_box rfl rfl) ?_;rintro _ T ⟨K,rfl,W,X,J,D⟩;have D:Box T K [.string C.Name,.i C.Cell,G] 88:=D;have ⟨E,b⟩:=Et P J;have A:=A.ext J;refine Ro 6 (Yl rfl (yfa rfl fo_88_0) (Yl rfl (ylb rfl ag_9 A rfl) (Yl rfl (yfa rfl fo_88_0) (Yl rfl (ylb rfl ag_9 D rfl) (Ro 3 (Wc rfl hF ?_ ?_))))))
  · intro hF;refine Rc 7 ?_;cases szt hF;exact Ne rfl rfl ⟨_,rfl,rfl,E⟩
  · intro hF;refine Rc 5 (Yl rfl (yfa rfl fo_88_1) (Yl rfl (ylb rfl ag_2 A rfl) (Yl rfl (yfa rfl fo_88_1) (Yl rfl (ylb rfl ag_2 D rfl) (Ro 3 (Wc rfl hF ?_ ?_))))))
    · intro hF;refine Rc 7 ?_;cases szt hF;exact Ne rfl rfl ⟨_,rfl,rfl,E⟩
    · intro hF;refine Rc 5 (Yl rfl (yfa rfl fo_88_2) (Yl rfl (ylb rfl ag_33 A rfl) (Yl rfl (yfa rfl fo_88_2) (Yl rfl (ylb rfl ag_33 D rfl) ?_))));have ⟨d,R,hF⟩:=bsome hF;refine Ef rfl (eca rfl gf_10 (W_9 R (by omega) (M.oh hH E) (N.oh hH E) :)) ?_;rintro _ e ⟨rfl,S⟩;have ⟨I,c⟩:=Et E S;refine Ro 3 (Wc rfl hF ?_ ?_)
      · intro hF;refine Rc 7 ?_;cases szt hF;exact Ne rfl rfl ⟨_,rfl,rfl,I⟩
      · intro hF;refine Rc 8 ?_;cases szt hF;exact Ne rfl rfl ⟨_,rfl,rfl,I⟩
def F_1p_L1 (n:Nat) (a0:List S_Instance) (a1:List S_Instance) (k0:Int→Option Bool):Nat→Int→Option Bool
  | 0, _=>none
  | m + 1, i7=>(bif decide (i7 < (a0.length:Int)) then ((getI a0 i7).bind fun x8=>((getI a1 i7).bind fun x19=>((F_2h n x8 x19).bind fun r30=>(bif (!r30) then (some false) else (F_1p_L1 n a0 a1 k0 m (wrap .i64 (i7 + 1))))))) else (k0 i7))
def F_1p (n:Nat) (a0:List S_Instance) (a1:List S_Instance):Option Bool:=(bif (((a0.length:Int)) != ((a1.length:Int))) then (some false) else (F_1p_L1 n a0 a1 (fun i7=>(some true)) n 0))
theorem W_1p {E:List S_Instance} {F:List S_Instance} {r:Bool} {I J:Value} (hF:F_1p n E F = some r) (hH:H ≤ w.heap.size) (G:slRep C_Instance w (Iv 0 H) E I) (K:slRep C_Instance w (Iv 0 H) F J) :
    Calls prog 81 [I,J].toArray w (Ret fun u b => u = .bool r∧Ext w b):=by
  refine calls_ofD func81 rfl ntmps81 ?_;have D:=Ext.refl w;unfold F_1p at hF;refine Rc 9 (Yl rfl (yle rfl underlying40 (G.oh hH D)) (Ro 1 (Yl rfl (yle rfl underlying40 (K.oh hH D)) (Ro 3 (Wc rfl hF ?_ ?_)))))
  · intro hF;refine Rc 7 ?_;cases szt hF;exact Ne rfl rfl ⟨_,rfl,rfl,D⟩
  · intro hF;refine Rc 9 ?_;refine WC.loopD (fun C a wl => ∃ (B:Int),Kn 27 [(0,I),(1,J),(5,.i B)] a∧Ext w wl∧w.heap.size ≤ wl.heap.size∧F_1p_L1 n E F (fun B => (some true)) C B = some r) n ?_ ?_
    · intro a hK;exact ⟨0,hK.sub rfl,D,Nat.le_refl _,hF⟩
    · rintro C a p ⟨B,hK,A,h,hF⟩;revert a;change WC _ _ _ _ _ _
      cases C with
      | zero => exact nos hF
      | succ C =>
        rw [F_1p_L1.eq_2] at hF;refine Rc 5 (Yl rfl (yle rfl underlying40 (G.oh hH A)) (Ro 3 (Wc rfl hF ?_ ?_)))
        · intro hF;refine Rc 5 (WC.quiet Tryz.hm (by kernel_rfl) (Qr 2 ?_));have ⟨M,W,hF⟩:=bsome hF;refine Qe rfl (yix rfl underlying40 cn_88 (G.oh hH A) W) ?_;rintro _ ⟨c,i,l,rfl,e,Q,O⟩;obtain ⟨Y,rfl,T⟩:=C_Instance_open Q;refine Qy rfl (yln (us:=[.string M.Name,.i M.Cell,Y]) rfl ag_88 O cn_88) (Qr 2 ?_);have ⟨N,X,hF⟩:=bsome hF;refine Qe rfl (yix rfl underlying40 cn_88 (K.oh hH A) X) ?_;rintro _ ⟨d,j,m,rfl,f,R,P⟩;obtain ⟨Z,rfl,U⟩:=C_Instance_open R;refine Qy rfl (yln (us:=[.string N.Name,.i N.Cell,Z]) rfl ag_88 P cn_88) ?_;have ⟨k,S,hF⟩:=bsome hF;refine Ql rfl (qca rfl gf_117 fun w' hw' => (W_2h S (Nat.le_trans (by omega) (hw').size) (T.old hw' (by omega)) (U.old hw' (by omega)) :)) ?_;refine Qr 1 ?_;refine QL.done fun o V => ?_;have ⟨L,g⟩:=Et A V;refine Re 1 (Wc rfl hF ?_ ?_)
          · intro hF;refine Rc 11 ?_;cases szt hF;exact Ne rfl rfl ⟨_,rfl,rfl,L⟩
          · intro hF;refine Rc 9 ?_;intro a hK;exact ⟨C,nr,(wrap .i64 (B + 1)),hK.sub rfl,L,(by omega),hF⟩
        · intro hF;refine Rc 11 ?_;cases szt hF;exact Ne rfl rfl ⟨_,rfl,rfl,A⟩
def F_1q_L1 (a0:List ByteArray) (a1:List ByteArray) (k0:Int→Option Bool):Nat→Int→Option Bool
  | 0, _=>none
  | m + 1, i7=>(bif decide (i7 < (a0.length:Int)) then ((getI a0 i7).bind fun x8=>((getI a1 i7).bind fun x17=>(bif (x8.toList != x17.toList) then (some false) else (F_1q_L1 a0 a1 k0 m (wrap .i64 (i7 + 1)))))) else (k0 i7))
def F_1q (n:Nat) (a0:List ByteArray) (a1:List ByteArray):Option Bool:=(bif (((a0.length:Int)) != ((a1.length:Int))) then (some false) else (F_1q_L1 a0 a1 (fun i7=>(some true)) n 0))
theorem W_1q {E:List ByteArray} {F:List ByteArray} {r:Bool} {I J:Value} (hF:F_1q n E F = some r) (hH:H ≤ w.heap.size) (G:slRep cStr w (Iv 0 H) E I) (K:slRep cStr w (Iv 0 H) F J) :
    Calls prog 82 [I,J].toArray w (Ret fun u R => u = .bool r∧Ext w R):=by
  refine calls_ofD func82 rfl ntmps82 ?_;have D:=Ext.refl w;unfold F_1q at hF;refine Rc 9 (Yl rfl (yle rfl underlying26 (G.oh hH D)) (Ro 1 (Yl rfl (yle rfl underlying26 (K.oh hH D)) (Ro 3 (Wc rfl hF ?_ ?_)))))
  · intro hF;refine Rc 7 ?_;cases szt hF;exact Ne rfl rfl ⟨_,rfl,rfl,D⟩
  · intro hF;refine Rc 9 ?_;refine WC.loopD (fun C a wl => ∃ (B:Int),Kn 26 [(0,I),(1,J),(5,.i B)] a∧Ext w wl∧w.heap.size ≤ wl.heap.size∧F_1q_L1 E F (fun B => (some true)) C B = some r) n ?_ ?_
    · intro a hK;exact ⟨0,hK.sub rfl,D,Nat.le_refl _,hF⟩
    · rintro C a c ⟨B,hK,A,X,hF⟩;revert a;change WC _ _ _ _ _ _
      cases C with
      | zero => exact nos hF
      | succ C =>
        rw [F_1q_L1.eq_2] at hF;refine Rc 5 (Yl rfl (yle rfl underlying26 (G.oh hH A)) (Ro 3 (Wc rfl hF ?_ ?_)))
        · intro hF;refine Rc 5 (WC.quiet Tryz.hm (by kernel_rfl) (Qr 2 ?_));have ⟨d,P,hF⟩:=bsome hF;refine Qe rfl (yix rfl underlying26 cn_9 (G.oh hH A) P) ?_;rintro _ ⟨S,Y,_,rfl,U,rfl,M⟩;refine Qy rfl (ylc 0 rfl ag_9 M rfl rfl) (Qr 2 ?_);have ⟨e,Q,hF⟩:=bsome hF;refine Qe rfl (yix rfl underlying26 cn_9 (K.oh hH A) Q) ?_;rintro _ ⟨T,Z,_,rfl,V,rfl,N⟩;refine Qy rfl (ylc 0 rfl ag_9 N rfl rfl) (Qr 1 ?_);refine QL.done fun b O => ?_;have ⟨L,W⟩:=Et A O;refine Re 1 (Wc rfl hF ?_ ?_)
          · intro hF;refine Rc 11 ?_;cases szt hF;exact Ne rfl rfl ⟨_,rfl,rfl,L⟩
          · intro hF;refine Rc 9 ?_;intro a hK;exact ⟨C,nr,(wrap .i64 (B + 1)),hK.sub rfl,L,(by omega),hF⟩
        · intro hF;refine Rc 11 ?_;cases szt hF;exact Ne rfl rfl ⟨_,rfl,rfl,A⟩
def F_2i (n:Nat) (a0:S_Port) (a1:S_Port):Option Bool:=(bif (a0.Name.toList != a1.Name.toList) then (some false) else (bif (a0.Dir != a1.Dir) then (some false) else (bif (a0.Net != a1.Net) then (some false) else (some true))))
theorem W_2i {A:S_Port} {B:S_Port} {r:Bool} (hF:F_2i n A B = some r) :
    Calls prog 118 [.agg #[.string A.Name,.i A.Dir,.i A.Net],.agg #[.string B.Name,.i B.Dir,.i B.Net]].toArray w (Ret fun u F => u = .bool r∧Ext w F):=by
  refine calls_ofD func118 rfl ntmps118 ?_;have J:=Ext.refl w;unfold F_2i at hF;refine Rc 2 (Ef rfl (eff_box rfl rfl) ?_);rintro _ F ⟨H,rfl,P,Q,L,C⟩;have C:Box F H [.string A.Name,.i A.Dir,.i A.Net] 130:=C;have ⟨K,S⟩:=Et J L;refine Ef rfl (eff_box rfl rfl) ?_;rintro _ M ⟨I,rfl,N,O,G,D⟩;have D:Box M I [.string B.Name,.i B.Dir,.i B.Net] 130:=D;have ⟨E,R⟩:=Et K G;have C:=C.ext G;refine Ro 6 (Yl rfl (yfa rfl fo_130_0) (Yl rfl (ylb rfl ag_9 C rfl) (Yl rfl (yfa rfl fo_130_0) (Yl rfl (ylb rfl ag_9 D rfl) (Ro 3 (Wc rfl hF ?_ ?_))))))
  · intro hF;refine Rc 7 ?_;cases szt hF;exact Ne rfl rfl ⟨_,rfl,rfl,E⟩
  · intro hF;refine Rc 5 (Yl rfl (yfa rfl fo_130_1) (Yl rfl (ylb rfl ag_2 C rfl) (Yl rfl (yfa rfl fo_130_1) (Yl rfl (ylb rfl ag_2 D rfl) (Ro 3 (Wc rfl hF ?_ ?_))))))
    · intro hF;refine Rc 7 ?_;cases szt hF;exact Ne rfl rfl ⟨_,rfl,rfl,E⟩
    · intro hF;refine Rc 5 (Yl rfl (yfa rfl fo_130_2) (Yl rfl (ylb rfl ag_2 C rfl) (Yl rfl (yfa rfl fo_130_2) (Yl rfl (ylb rfl ag_2 D rfl) (Ro 3 (Wc rfl hF ?_ ?_))))))
      · intro hF;refine Rc 7 ?_;cases szt hF;exact Ne rfl rfl ⟨_,rfl,rfl,E⟩
      · intro hF;refine Rc 8 ?_;cases szt hF;exact Ne rfl rfl ⟨_,rfl,rfl,E⟩
def F_1r_L1 (n:Nat) (a0:List S_Port) (a1:List S_Port) (k0:Int→Option Bool):Nat→Int→Option Bool
  | 0, _=>none
  | m + 1, i7=>(bif decide (i7 < (a0.length:Int)) then ((getI a0 i7).bind fun x8=>((getI a1 i7).bind fun x17=>((F_2i n x8 x17).bind fun r26=>(bif (!r26) then (some false) else (F_1r_L1 n a0 a1 k0 m (wrap .i64 (i7 + 1))))))) else (k0 i7))
def F_1r (n:Nat) (a0:List S_Port) (a1:List S_Port):Option Bool:=(bif (((a0.length:Int)) != ((a1.length:Int))) then (some false) else (F_1r_L1 n a0 a1 (fun i7=>(some true)) n 0))
theorem W_1r {E:List S_Port} {F:List S_Port} {r:Bool} {I J:Value} (hF:F_1r n E F = some r) (hH:H ≤ w.heap.size) (G:slRep C_Port w (Iv 0 H) E I) (M:slRep C_Port w (Iv 0 H) F J) :
    Calls prog 83 [I,J].toArray w (Ret fun u W => u = .bool r∧Ext w W):=by
  refine calls_ofD func83 rfl ntmps83 ?_;have D:=Ext.refl w;unfold F_1r at hF;refine Rc 9 (Yl rfl (yle rfl underlying41 (G.oh hH D)) (Ro 1 (Yl rfl (yle rfl underlying41 (M.oh hH D)) (Ro 3 (Wc rfl hF ?_ ?_)))))
  · intro hF;refine Rc 7 ?_;cases szt hF;exact Ne rfl rfl ⟨_,rfl,rfl,D⟩
  · intro hF;refine Rc 9 ?_;refine WC.loopD (fun C a wl => ∃ (B:Int),Kn 27 [(0,I),(1,J),(5,.i B)] a∧Ext w wl∧w.heap.size ≤ wl.heap.size∧F_1r_L1 n E F (fun B => (some true)) C B = some r) n ?_ ?_
    · intro a hK;exact ⟨0,hK.sub rfl,D,Nat.le_refl _,hF⟩
    · rintro C a k ⟨B,hK,A,d,hF⟩;revert a;change WC _ _ _ _ _ _
      cases C with
      | zero => exact nos hF
      | succ C =>
        rw [F_1r_L1.eq_2] at hF;refine Rc 5 (Yl rfl (yle rfl underlying41 (G.oh hH A)) (Ro 3 (Wc rfl hF ?_ ?_)))
        · intro hF;refine Rc 5 (WC.quiet Tryz.hm (by kernel_rfl) (Qr 2 ?_));have ⟨K,U,hF⟩:=bsome hF;refine Qe rfl (yix rfl underlying41 cn_130 (G.oh hH A) U) ?_;rintro _ ⟨X,e,h,rfl,Z,Q,O⟩;obtain rfl:=C_Port_open Q;refine Qy rfl (yln (us:=[.string K.Name,.i K.Dir,.i K.Net]) rfl ag_130 O cn_130) (Qr 2 ?_);have ⟨L,V,hF⟩:=bsome hF;refine Qe rfl (yix rfl underlying41 cn_130 (M.oh hH A) V) ?_;rintro _ ⟨Y,f,i,rfl,b,R,P⟩;obtain rfl:=C_Port_open R;refine Qy rfl (yln (us:=[.string L.Name,.i L.Dir,.i L.Net]) rfl ag_130 P cn_130) ?_;have ⟨g,S,hF⟩:=bsome hF;refine Ql rfl (qca rfl gf_118 fun w' hw' => (W_2i S :)) ?_;refine Qr 1 ?_;refine QL.done fun j T => ?_;have ⟨N,c⟩:=Et A T;refine Re 1 (Wc rfl hF ?_ ?_)
          · intro hF;refine Rc 11 ?_;cases szt hF;exact Ne rfl rfl ⟨_,rfl,rfl,N⟩
          · intro hF;refine Rc 9 ?_;intro a hK;exact ⟨C,nr,(wrap .i64 (B + 1)),hK.sub rfl,N,(by omega),hF⟩
        · intro hF;refine Rc 11 ?_;cases szt hF;exact Ne rfl rfl ⟨_,rfl,rfl,A⟩
def F_36 (n:Nat) (a0:S_Design) (a1:S_Design):Option Bool:=((F_1p n a0.Instances a1.Instances).bind fun r27=>(bif (!r27) then (some false) else ((F_1q n a0.Nets a1.Nets).bind fun r33=>(bif (!r33) then (some false) else ((F_1r n a0.Ports a1.Ports).bind fun r39=>(bif (!r39) then (some false) else (some true)))))))
theorem W_36 {C:S_Design} {D:S_Design} {r:Bool} {K M N O P L:Value} (hF:F_36 n C D = some r) (hH:H ≤ w.heap.size) (W:slRep C_Instance w (Iv 0 H) C.Instances K) (X:slRep cStr w (Iv 0 H) C.Nets M) (Y:slRep C_Port w (Iv 0 H) C.Ports N) (Z:slRep C_Instance w (Iv 0 H) D.Instances O) (U:slRep cStr w (Iv 0 H) D.Nets P) (V:slRep C_Port w (Iv 0 H) D.Ports L) :
    Calls prog 40 [.agg #[K,M,N],.agg #[O,P,L]].toArray w (Ret fun u i => u = .bool r∧Ext w i):=by
  refine calls_ofD func40 rfl ntmps40 ?_;have a:=Ext.refl w;unfold F_36 at hF;refine Rc 2 (Ef rfl (eff_box rfl rfl) ?_);rintro _ h ⟨S,rfl,k,l,c,A⟩;have A:Box h S [K,M,N] 43:=A;have ⟨b,p⟩:=Et a c;refine Ef rfl (eff_box rfl rfl) ?_;rintro _ j ⟨T,rfl,m,o,R,B⟩;have B:Box j T [O,P,L] 43:=B;have ⟨G,q⟩:=Et b R;have A:=A.ext R;refine Ro 6 (Yl rfl (yfa rfl fo_43_0) (Yl rfl (ylb rfl ag_40 A rfl) (Yl rfl (yfa rfl fo_43_0) (Yl rfl (ylb rfl ag_40 B rfl) ?_))));have ⟨x,d,hF⟩:=bsome hF;refine Ef rfl (eca rfl gf_81 (W_1p d (by omega) (W.oh hH G) (Z.oh hH G) :)) ?_;rintro _ A0 ⟨rfl,I⟩;have ⟨E,s⟩:=Et G I;have A:=A.ext I;have B:=B.ext I;refine Ro 3 (Wc rfl hF ?_ ?_)
  · intro hF;refine Rc 7 ?_;cases szt hF;exact Ne rfl rfl ⟨_,rfl,rfl,E⟩
  · intro hF;refine Rc 5 (Yl rfl (yfa rfl fo_43_1) (Yl rfl (ylb rfl ag_26 A rfl) (Yl rfl (yfa rfl fo_43_1) (Yl rfl (ylb rfl ag_26 B rfl) ?_))));have ⟨y,e,hF⟩:=bsome hF;refine Ef rfl (eca rfl gf_82 (W_1q e (by omega) (X.oh hH E) (U.oh hH E) :)) ?_;rintro _ B0 ⟨rfl,J⟩;have ⟨F,t⟩:=Et E J;have A:=A.ext J;have B:=B.ext J;refine Ro 3 (Wc rfl hF ?_ ?_)
    · intro hF;refine Rc 7 ?_;cases szt hF;exact Ne rfl rfl ⟨_,rfl,rfl,F⟩
    · intro hF;refine Rc 5 (Yl rfl (yfa rfl fo_43_2) (Yl rfl (ylb rfl ag_41 A rfl) (Yl rfl (yfa rfl fo_43_2) (Yl rfl (ylb rfl ag_41 B rfl) ?_))));have ⟨z,f,hF⟩:=bsome hF;refine Ef rfl (eca rfl gf_83 (W_1r f (by omega) (Y.oh hH F) (V.oh hH F) :)) ?_;rintro _ C0 ⟨rfl,g⟩;have ⟨Q,v⟩:=Et F g;refine Ro 3 (Wc rfl hF ?_ ?_)
      · intro hF;refine Rc 7 ?_;cases szt hF;exact Ne rfl rfl ⟨_,rfl,rfl,Q⟩
      · intro hF;refine Rc 8 ?_;cases szt hF;exact Ne rfl rfl ⟨_,rfl,rfl,Q⟩
def F_2j (n:Nat) (a0:S_Wire) (a1:S_Wire):Option Bool:=((F_9 n a0.Parent a1.Parent).bind fun r31=>(bif (!r31) then (some false) else ((F_9 n a0.Res a1.Res).bind fun r37=>(bif (!r37) then (some false) else ((F_9 n a0.Cap a1.Cap).bind fun r43=>(bif (!r43) then (some false) else ((F_9 n a0.Sink a1.Sink).bind fun r49=>(bif (!r49) then (some false) else (some true)))))))))
theorem W_2j {C:S_Wire} {D:S_Wire} {r:Bool} {M Q R S T N O P:Value} (hF:F_2j n C D = some r) (hH:H ≤ w.heap.size) (c:slRep (cInt .i64) w (Iv 0 H) C.Parent M) (d:slRep (cInt .i64) w (Iv 0 H) C.Res Q) (e:slRep (cInt .i64) w (Iv 0 H) C.Cap R) (f:slRep (cInt .i64) w (Iv 0 H) C.Sink S) (Y:slRep (cInt .i64) w (Iv 0 H) D.Parent T) (Z:slRep (cInt .i64) w (Iv 0 H) D.Res N) (a:slRep (cInt .i64) w (Iv 0 H) D.Cap O) (b:slRep (cInt .i64) w (Iv 0 H) D.Sink P) :
    Calls prog 84 [.agg #[M,Q,R,S],.agg #[T,N,O,P]].toArray w (Ret fun u q => u = .bool r∧Ext w q):=by
  refine calls_ofD func84 rfl ntmps84 ?_;have g:=Ext.refl w;unfold F_2j at hF;refine Rc 2 (Ef rfl (eff_box rfl rfl) ?_);rintro _ p ⟨W,rfl,t,v,i,A⟩;have A:Box p W [M,Q,R,S] 140:=A;have ⟨h,z⟩:=Et g i;refine Ef rfl (eff_box rfl rfl) ?_;rintro _ s ⟨X,rfl,x,y,V,B⟩;have B:Box s X [T,N,O,P] 140:=B;have ⟨I,A0⟩:=Et h V;have A:=A.ext V;refine Ro 6 (Yl rfl (yfa rfl fo_140_0) (Yl rfl (ylb rfl ag_33 A rfl) (Yl rfl (yfa rfl fo_140_0) (Yl rfl (ylb rfl ag_33 B rfl) ?_))));have ⟨F0,j,hF⟩:=bsome hF;refine Ef rfl (eca rfl gf_10 (W_9 j (by omega) (c.oh hH I) (Y.oh hH I) :)) ?_;rintro _ J0 ⟨rfl,J⟩;have ⟨E,B0⟩:=Et I J;have A:=A.ext J;have B:=B.ext J;refine Ro 3 (Wc rfl hF ?_ ?_)
  · intro hF;refine Rc 7 ?_;cases szt hF;exact Ne rfl rfl ⟨_,rfl,rfl,E⟩
  · intro hF;refine Rc 5 (Yl rfl (yfa rfl fo_140_1) (Yl rfl (ylb rfl ag_33 A rfl) (Yl rfl (yfa rfl fo_140_1) (Yl rfl (ylb rfl ag_33 B rfl) ?_))));have ⟨G0,k,hF⟩:=bsome hF;refine Ef rfl (eca rfl gf_10 (W_9 k (by omega) (d.oh hH E) (Z.oh hH E) :)) ?_;rintro _ K0 ⟨rfl,K⟩;have ⟨F,C0⟩:=Et E K;have A:=A.ext K;have B:=B.ext K;refine Ro 3 (Wc rfl hF ?_ ?_)
    · intro hF;refine Rc 7 ?_;cases szt hF;exact Ne rfl rfl ⟨_,rfl,rfl,F⟩
    · intro hF;refine Rc 5 (Yl rfl (yfa rfl fo_140_2) (Yl rfl (ylb rfl ag_33 A rfl) (Yl rfl (yfa rfl fo_140_2) (Yl rfl (ylb rfl ag_33 B rfl) ?_))));have ⟨H0,l,hF⟩:=bsome hF;refine Ef rfl (eca rfl gf_10 (W_9 l (by omega) (e.oh hH F) (a.oh hH F) :)) ?_;rintro _ L0 ⟨rfl,L⟩;have ⟨G,D0⟩:=Et F L;have A:=A.ext L;have B:=B.ext L;refine Ro 3 (Wc rfl hF ?_ ?_)
      · intro hF;refine Rc 7 ?_;cases szt hF;exact Ne rfl rfl ⟨_,rfl,rfl,G⟩
      · intro hF;refine Rc 5 (Yl rfl (yfa rfl fo_140_3) (Yl rfl (ylb rfl ag_33 A rfl) (Yl rfl (yfa rfl fo_140_3) (Yl rfl (ylb rfl ag_33 B rfl) ?_))));have ⟨I0,m,hF⟩:=bsome hF;refine Ef rfl (eca rfl gf_10 (W_9 m (by omega) (f.oh hH G) (b.oh hH G) :)) ?_;rintro _ M0 ⟨rfl,o⟩;have ⟨U,E0⟩:=Et G o;refine Ro 3 (Wc rfl hF ?_ ?_)
        · intro hF;refine Rc 7 ?_;cases szt hF;exact Ne rfl rfl ⟨_,rfl,rfl,U⟩
        · intro hF;refine Rc 8 ?_;cases szt hF;exact Ne rfl rfl ⟨_,rfl,rfl,U⟩
def F_1s_L1 (n:Nat) (a0:List S_Wire) (a1:List S_Wire) (k0:Int→Option Bool):Nat→Int→Option Bool
  | 0, _=>none
  | m + 1, i7=>(bif decide (i7 < (a0.length:Int)) then ((getI a0 i7).bind fun x8=>((getI a1 i7).bind fun x25=>((F_2j n x8 x25).bind fun r42=>(bif (!r42) then (some false) else (F_1s_L1 n a0 a1 k0 m (wrap .i64 (i7 + 1))))))) else (k0 i7))
def F_1s (n:Nat) (a0:List S_Wire) (a1:List S_Wire):Option Bool:=(bif (((a0.length:Int)) != ((a1.length:Int))) then (some false) else (F_1s_L1 n a0 a1 (fun i7=>(some true)) n 0))
theorem W_1s {E:List S_Wire} {F:List S_Wire} {r:Bool} {I J:Value} (hF:F_1s n E F = some r) (hH:H ≤ w.heap.size) (G:slRep C_Wire w (Iv 0 H) E I) (K:slRep C_Wire w (Iv 0 H) F J) :
    Calls prog 41 [I,J].toArray w (Ret fun u l => u = .bool r∧Ext w l):=by
  refine calls_ofD func41 rfl ntmps41 ?_;have D:=Ext.refl w;unfold F_1s at hF;refine Rc 9 (Yl rfl (yle rfl underlying44 (G.oh hH D)) (Ro 1 (Yl rfl (yle rfl underlying44 (K.oh hH D)) (Ro 3 (Wc rfl hF ?_ ?_)))))
  · intro hF;refine Rc 7 ?_;cases szt hF;exact Ne rfl rfl ⟨_,rfl,rfl,D⟩
  · intro hF;refine Rc 9 ?_;refine WC.loopD (fun C a wl => ∃ (B:Int),Kn 27 [(0,I),(1,J),(5,.i B)] a∧Ext w wl∧w.heap.size ≤ wl.heap.size∧F_1s_L1 n E F (fun B => (some true)) C B = some r) n ?_ ?_
    · intro a hK;exact ⟨0,hK.sub rfl,D,Nat.le_refl _,hF⟩
    · rintro C a C0 ⟨B,hK,A,t,hF⟩;revert a;change WC _ _ _ _ _ _
      cases C with
      | zero => exact nos hF
      | succ C =>
        rw [F_1s_L1.eq_2] at hF;refine Rc 5 (Yl rfl (yle rfl underlying44 (G.oh hH A)) (Ro 3 (Wc rfl hF ?_ ?_)))
        · intro hF;refine Rc 5 (WC.quiet Tryz.hm (by kernel_rfl) (Qr 2 ?_));have ⟨D0,b,hF⟩:=bsome hF;refine Qe rfl (yix rfl underlying44 cn_140 (G.oh hH A) b) ?_;rintro _ ⟨m,v,z,rfl,p,O,M⟩;obtain ⟨d,e,f,g,rfl,R,S,T,U⟩:=C_Wire_open O;refine Qy rfl (yln (us:=[d,e,f,g]) rfl ag_140 M cn_140) (Qr 2 ?_);have ⟨E0,c,hF⟩:=bsome hF;refine Qe rfl (yix rfl underlying44 cn_140 (K.oh hH A) c) ?_;rintro _ ⟨o,x,A0,rfl,q,P,N⟩;obtain ⟨h,i,j,k,rfl,V,W,X,Y⟩:=C_Wire_open P;refine Qy rfl (yln (us:=[h,i,j,k]) rfl ag_140 N cn_140) ?_;have ⟨y,Q,hF⟩:=bsome hF;refine Ql rfl (qca rfl gf_84 fun w' hw' => (W_2j Q (Nat.le_trans (by omega) (hw').size) (R.old hw' (by omega)) (S.old hw' (by omega)) (T.old hw' (by omega)) (U.old hw' (by omega)) (V.old hw' (by omega)) (W.old hw' (by omega)) (X.old hw' (by omega)) (Y.old hw' (by omega)) :)) ?_;refine Qr 1 ?_;refine QL.done fun B0 Z => ?_;have ⟨L,s⟩:=Et A Z;refine Re 1 (Wc rfl hF ?_ ?_)
          · intro hF;refine Rc 11 ?_;cases szt hF;exact Ne rfl rfl ⟨_,rfl,rfl,L⟩
          · intro hF;refine Rc 9 ?_;intro a hK;exact ⟨C,nr,(wrap .i64 (B + 1)),hK.sub rfl,L,(by omega),hF⟩
        · intro hF;refine Rc 11 ?_;cases szt hF;exact Ne rfl rfl ⟨_,rfl,rfl,A⟩
def F_37 (n:Nat) (a0:S_Block) (a1:S_Block):Option Bool:=((F_35 n a0.Library a1.Library).bind fun r35=>(bif (!r35) then (some false) else ((F_36 n a0.Design a1.Design).bind fun r41=>(bif (!r41) then (some false) else ((F_1s n a0.Wires a1.Wires).bind fun r47=>(bif (!r47) then (some false) else (some true)))))))
theorem W_37 {D:S_Block} {E:S_Block} {r:Bool} {F L M N T G I J K S:Value} (hF:F_37 n D E = some r) (hH:H ≤ w.heap.size) (d:slRep C_Cell w (Iv 0 H) D.Library.Cells F) (f:slRep C_Instance w (Iv 0 H) D.Design.Instances L) (g:slRep cStr w (Iv 0 H) D.Design.Nets M) (h:slRep C_Port w (Iv 0 H) D.Design.Ports N) (Y:slRep C_Wire w (Iv 0 H) D.Wires T) (Z:slRep C_Cell w (Iv 0 H) E.Library.Cells G) (a:slRep C_Instance w (Iv 0 H) E.Design.Instances I) (b:slRep cStr w (Iv 0 H) E.Design.Nets J) (c:slRep C_Port w (Iv 0 H) E.Design.Ports K) (e:slRep C_Wire w (Iv 0 H) E.Wires S) :
    Calls prog 11 [.agg #[F,L,M,N,T],.agg #[G,I,J,K,S]].toArray w (Ret fun u q => u = .bool r∧Ext w q):=by
  refine calls_ofD func11 rfl ntmps11 ?_;have i:=Ext.refl w;unfold F_37 at hF;refine Rc 2 (Ef rfl (eff_box rfl rfl) ?_);rintro _ s ⟨W,rfl,v,x,k,A⟩;have A:Box s W [F,L,M,N,T] 46:=A;have ⟨j,A0⟩:=Et i k;refine Ef rfl (eff_box rfl rfl) ?_;rintro _ t ⟨X,rfl,y,z,V,B⟩;have B:Box t X [G,I,J,K,S] 46:=B;have ⟨P,B0⟩:=Et j V;have A:=A.ext V;refine Ro 6 (Yl rfl (yfa rfl fo_46_0) (Yl rfl (yln (us:=[F]) rfl ag_39 (CellsAt.sub (Box.cells A) 0 1:CellsAt _ _ _ [F]) cn_39) (Yl rfl (yfa rfl fo_46_0) (Yl rfl (yln (us:=[G]) rfl ag_39 (CellsAt.sub (Box.cells B) 0 1:CellsAt _ _ _ [G]) cn_39) ?_))));have ⟨F0,l,hF⟩:=bsome hF;refine Ef rfl (eca rfl gf_39 (W_35 l (by omega) (d.oh hH P) (Z.oh hH P) :)) ?_;rintro _ I0 ⟨rfl,Q⟩;have ⟨C,C0⟩:=Et P Q;have A:=A.ext Q;have B:=B.ext Q;refine Ro 3 (Wc rfl hF ?_ ?_)
  · intro hF;refine Rc 7 ?_;cases szt hF;exact Ne rfl rfl ⟨_,rfl,rfl,C⟩
  · intro hF;refine Rc 5 (Yl rfl (yfa rfl fo_46_1) (Yl rfl (yln (us:=[L,M,N]) rfl ag_43 (CellsAt.sub (Box.cells A) 1 3:CellsAt _ _ _ [L,M,N]) cn_43) (Yl rfl (yfa rfl fo_46_1) (Yl rfl (yln (us:=[I,J,K]) rfl ag_43 (CellsAt.sub (Box.cells B) 1 3:CellsAt _ _ _ [I,J,K]) cn_43) ?_))));have ⟨G0,m,hF⟩:=bsome hF;refine Ef rfl (eca rfl gf_40 (W_36 m (by omega) (f.oh hH C) (g.oh hH C) (h.oh hH C) (a.oh hH C) (b.oh hH C) (c.oh hH C) :)) ?_;rintro _ J0 ⟨rfl,R⟩;have ⟨O,D0⟩:=Et C R;have A:=A.ext R;have B:=B.ext R;refine Ro 3 (Wc rfl hF ?_ ?_)
    · intro hF;refine Rc 7 ?_;cases szt hF;exact Ne rfl rfl ⟨_,rfl,rfl,O⟩
    · intro hF;refine Rc 5 (Yl rfl (yfa rfl fo_46_2) (Yl rfl (ylb rfl ag_44 A rfl) (Yl rfl (yfa rfl fo_46_2) (Yl rfl (ylb rfl ag_44 B rfl) ?_))));have ⟨H0,o,hF⟩:=bsome hF;refine Ef rfl (eca rfl gf_41 (W_1s o (by omega) (Y.oh hH O) (e.oh hH O) :)) ?_;rintro _ K0 ⟨rfl,p⟩;have ⟨U,E0⟩:=Et O p;refine Ro 3 (Wc rfl hF ?_ ?_)
      · intro hF;refine Rc 7 ?_;cases szt hF;exact Ne rfl rfl ⟨_,rfl,rfl,U⟩
      · intro hF;refine Rc 8 ?_;cases szt hF;exact Ne rfl rfl ⟨_,rfl,rfl,U⟩
def F_0d_L1 (k0:Int→Int→(List Int)→Option (Int × (List Int))):Nat→Int→Int→(List Int)→Option (Int × (List Int))
  | 0, _, _, _=>none
  | m + 1, i9, i10, l11=>(bif decide (i10 < (l11.length:Int)) then ((getI l11 i10).bind fun x13=>(F_0d_L1 k0 m (wrap .i64 (i9 + 1)) (wrap .i64 (i10 + 1)) ((l11.set (i10).toNat i9)))) else (k0 i9 i10 l11))
def F_0d (n:Nat) (a0:List Int) (a1:Int):Option (Int × (List Int)):=(F_0d_L1 (fun i9 i10 l11=>(some (i9, l11))) n a1 0 a0)
theorem W_0d {G:List Int} {H:Int} {r:Int × (List Int)} {B:Value} {B3:Nat} (hF:F_0d n G H = some r) (I:ownR (cInt .i64) w B3 (Iv 0 0) 2 G B) :
    Calls prog 13 [B,.i H].toArray w (Ret fun u N => u = .i r.1∧ownR (cInt .i64) N B3 (Iv 0 0) 2 r.2 B∧But (pO B) w N):=by
  refine calls_ofD func13 rfl ntmps13 ?_;have P:But (pO B) w w:=But.refl _ w;have V:=ownR.blk I;unfold F_0d at hF;refine Rc 12 ?_;refine WC.loopD (fun E a wl => ∃ (A:Int) (C:Int) (D:List Int),Kn 19 [(0,B),(1,.i A),(5,.i C)] a∧But (pO B) w wl∧w.heap.size ≤ wl.heap.size∧ownR (cInt .i64) wl (B3) (Iv 0 0) 2 D B∧F_0d_L1 (fun A C D => (some (A,D))) E A C D = some r) n ?_ ?_
  · intro a hK;exact ⟨H,0,G,hK.sub rfl,P,Nat.le_refl _,I,hF⟩
  · rintro E a b ⟨A,C,D,hK,J,W,F,hF⟩;revert a;change WC _ _ _ _ _ _
    cases E with
    | zero => exact nos hF
    | succ E =>
      rw [F_0d_L1.eq_2] at hF;refine Rc 5 (Yl rfl (ylo rfl underlying33 F) (Ro 3 (Wc rfl hF ?_ ?_)))
      · intro hF;refine Rc 9 ?_;have ⟨d,M,hF⟩:=bsome hF;refine Ye rfl (yio rfl underlying33 cn_2 F M) ?_;rintro _ ⟨U,Y,rfl,K,L,O⟩;have R:=L;obtain rfl:=L;refine Ef rfl (eff_store_own (c:=(cInt .i64)) (us':=[.i A]) (y':=A) 0 _ rfl rfl rfl F K M rfl cn_2 rfl R O rfl rfl rfl (fun k h => absurd h.2 (Nat.not_lt_zero k))) ?_;rintro _ Z ⟨T,S⟩;have ⟨Q,X⟩:=Ebu J T (Or.inl K);refine Ro 15 ?_;intro a hK;exact ⟨E,nr,(wrap .i64 (A + 1)),(wrap .i64 (C + 1)),((D.set (C).toNat A)),hK.sub rfl,Q,(by omega),S,hF⟩
      · intro hF;refine Rc 12 ?_;cases szt hF;exact Ne rfl rfl ⟨_,rfl,rfl,F,J⟩
def F_x_L1 (k0:Int→ByteArray→Option ByteArray):Nat→Int→ByteArray→Option ByteArray
  | 0, _, _=>none
  | m + 1, i3, t4=>(bif decide (i3 > 0) then ((catS ((strB ([IntKind.wrap IntKind.u8 (wrap .i64 (48 + (Int.tmod i3 10)))]))) t4).bind fun t17=>(F_x_L1 k0 m (wrap .i64 (Int.tdiv i3 10)) t17)) else (k0 i3 t4))
def F_x (n:Nat) (a0:Int):Option ByteArray:=(bif decide (a0 ≤ 0) then (some ((ByteArray.mk #[109, 48]))) else (F_x_L1 (fun i3 t4=>((catS ((ByteArray.mk #[109])) t4).bind fun t5=>(some t5))) n a0 ((ByteArray.mk #[]))))
theorem W_x {D:Int} {r:ByteArray} (hF:F_x n D = some r) :
    Calls prog 119 [.i D].toArray w (Ret fun u O => u = .string r∧Ext w O):=by
  refine calls_ofD func119 rfl ntmps119 ?_;have E:=Ext.refl w;unfold F_x at hF;refine Rc 12 (Wc rfl hF ?_ ?_)
  · intro hF;refine Rc 7 ?_;cases szt hF;exact Ne rfl rfl ⟨_,rfl,rfl,E⟩
  · intro hF;refine Rc 9 ?_;refine WC.loopD (fun B a wl => ∃ (A:Int) (C:ByteArray),Kn 20 [(0,.i A),(3,.string C)] a∧Ext w wl∧w.heap.size ≤ wl.heap.size∧F_x_L1 (fun A C => (Option.bind (catS ((ByteArray.mk #[109])) C) fun N => (some N))) B A C = some r) n ?_ ?_
    · intro a hK;exact ⟨D,((ByteArray.mk #[])),hK.sub rfl,E,Nat.le_refl _,hF⟩
    · rintro B a Y ⟨A,C,hK,F,V,hF⟩;revert a;change WC _ _ _ _ _ _
      cases B with
      | zero => exact nos hF
      | succ B =>
        rw [F_x_L1.eq_2] at hF;refine Rc 7 (Wc rfl hF ?_ ?_)
        · intro hF;refine Rc 8 (Yl rfl (yld_conv rfl underlying3 underlying5 rfl) ?_);refine Ef rfl (eff_buildSlice (c:=(cInt .u8)) (xs:=[IntKind.wrap IntKind.u8 (wrap .i64 (48 + (Int.tmod A 10)))]) (S:=(Iv 0 0)) (uss:=[(0,[.int .u8 (IntKind.wrap IntKind.u8 (wrap .i64 (48 + (Int.tmod A 10))))])]) (out:=[.int .u8 (IntKind.wrap IntKind.u8 (wrap .i64 (48 + (Int.tmod A 10))))]) rfl underlying212 in_5 rfl rfl (fillL_all [[.int .u8 (IntKind.wrap IntKind.u8 (wrap .i64 (48 + (Int.tmod A 10))))]] rfl rfl rfl) rfl rfl rfl rfl (one_rep (uss:=[[.int .u8 (IntKind.wrap IntKind.u8 (wrap .i64 (48 + (Int.tmod A 10))))]]) (show reps _ _ _ _ _ from ⟨rfl,trivial⟩) rfl) (fun k h => by have:=h.2;omega) rfl) ?_;rintro X Z ⟨P,G,R,T,L,I⟩;have ⟨H,U⟩:=Et F L;have Q:=bd_of G;clear G;refine Yl rfl (yld_bytes rfl underlying212 underlying5 underlying9 rfl (ownR.slf I nr nr)) (Ro 1 ?_);have ⟨M,J,hF⟩:=bsome hF;refine Yl rfl (yld_cat rfl rfl rfl J) (Ro 10 ?_);intro a hK;exact ⟨B,nr,(wrap .i64 (Int.tdiv A 10)),M,hK.sub rfl,H,(by omega),hF⟩
        · intro hF;refine Rc 8 ?_;have ⟨W,K,hF⟩:=bsome hF;refine Yl rfl (yld_cat rfl rfl rfl K) (Ro 4 ?_);cases szt hF;exact Ne rfl rfl ⟨_,rfl,rfl,F⟩
def F_0t_L1 (n:Nat) (a0:List S_Pin) (k0:Int→Int→Option Int):Nat→Int→Int→Option Int
  | 0, _, _=>none
  | m + 1, i5, i6=>(bif decide (i6 < (a0.length:Int)) then ((F_x n i5).bind fun r8=>((getI a0 i6).bind fun x14=>((getI a0 i6).bind fun x31=>((getI a0 i6).bind fun x48=>((getI a0 i6).bind fun x65=>(F_0t_L1 n a0 k0 m (wrap .i64 ((wrap .i64 ((wrap .i64 ((wrap .i64 (i5 + 1)) + 1)) + 1)) + 1)) (wrap .i64 (i6 + 1)))))))) else (k0 i5 i6))
def F_0t (n:Nat) (a0:List S_Pin) (a1:Int):Option Int:=(F_0t_L1 n a0 (fun i5 i6=>(some i5)) n a1 0)
theorem W_0t {E:List S_Pin} {K:Int} {r:Int} {lo hi:Nat} {J:Value} (hF:F_0t n E K = some r) (hlh:hi ≤ w.heap.size) (V:slRep C_PinS w (Iv lo hi) E J) :
    Calls prog 120 [J,.i K].toArray w (Ret fun u s => u = .i r∧Sim (Iv lo hi) w s):=by
  refine calls_ofD func120 rfl ntmps120 ?_;have b:Sim (Iv lo hi) w w:=Sim.refl _ w;unfold F_0t at hF;refine Rc 12 ?_;refine WC.loopD (fun D a wl => ∃ (B:Int) (C:Int),Kn 44 [(0,J),(1,.i B),(5,.i C)] a∧Sim (Iv lo hi) w wl∧w.heap.size ≤ wl.heap.size∧slRep C_PinS wl (Iv lo hi) E J∧F_0t_L1 n E (fun B C => (some B)) D B C = some r) n ?_ ?_
  · intro a hK;exact ⟨K,0,hK.sub rfl,b,Nat.le_refl _,V,hF⟩
  · rintro D a M0 ⟨B,C,hK,P,A0,A,hF⟩;revert a;change WC _ _ _ _ _ _
    cases D with
    | zero => exact nos hF
    | succ D =>
      rw [F_0t_L1.eq_2] at hF;refine Rc 5 (Yl rfl (yle rfl underlying83 A) (Ro 3 (Wc rfl hF ?_ ?_)))
      · intro hF;refine Rc 9 ?_;have ⟨F0,h,hF⟩:=bsome hF;refine Ef rfl (eca rfl gf_119 (W_x h :)) ?_;rintro _ K0 ⟨rfl,U⟩;have ⟨c,t⟩:=Est P U;have A:=A.old U (by omega);have ⟨Q0,m,hF⟩:=bsome hF;refine Ye rfl (yix rfl underlying83 cn_82 A m) ?_;rintro _ ⟨L,B0,G0,rfl,F,i,W⟩;have F:lo ≤ L∧L < hi:=⟨F.1,by have:=F.2;omega⟩;obtain ⟨U0,V0,W0,X0,rfl⟩:=C_PinS_open i;refine Yl rfl (yfa rfl fo_82_0) (Ef rfl (eff_soft 0 rfl W rfl rfl (.str _ _) cn_9 rfl rfl) ?_);rintro _ L0 Q;have ⟨d,v⟩:=Ess c Q (all_pB (Or.inl F));have A:=slRep.sim A Q;refine Ro 14 ?_;have ⟨R0,o,hF⟩:=bsome hF;refine Ye rfl (yix rfl underlying83 cn_82 A o) ?_;rintro _ ⟨M,C0,H0,rfl,G,j,X⟩;have G:lo ≤ M∧M < hi:=⟨G.1,by have:=G.2;omega⟩;obtain ⟨Y0,Z0,a0,b0,rfl⟩:=C_PinS_open j;refine Yl rfl (yfa rfl fo_82_1) (Ef rfl (eff_soft 1 rfl X rfl rfl (.int _ _ _) cn_2 rfl rfl) ?_);rintro _ N0 R;have ⟨e,x⟩:=Ess d R (all_pB (Or.inl G));have A:=slRep.sim A R;refine Ro 14 ?_;have ⟨S0,p,hF⟩:=bsome hF;refine Ye rfl (yix rfl underlying83 cn_82 A p) ?_;rintro _ ⟨N,D0,I0,rfl,H,k,Y⟩;have H:lo ≤ N∧N < hi:=⟨H.1,by have:=H.2;omega⟩;obtain ⟨c0,d0,e0,f0,rfl⟩:=C_PinS_open k;refine Yl rfl (yfa rfl fo_82_2) (Ef rfl (eff_soft 2 rfl Y rfl rfl (.int _ _ _) cn_2 rfl rfl) ?_);rintro _ O0 S;have ⟨f,y⟩:=Ess e S (all_pB (Or.inl H));have A:=slRep.sim A S;refine Ro 16 ?_;have ⟨T0,q,hF⟩:=bsome hF;refine Ye rfl (yix rfl underlying83 cn_82 A q) ?_;rintro _ ⟨O,E0,J0,rfl,I,l,Z⟩;have I:lo ≤ O∧O < hi:=⟨I.1,by have:=I.2;omega⟩;obtain ⟨g0,h0,i0,j0,rfl⟩:=C_PinS_open l;refine Yl rfl (yfa rfl fo_82_3) (Ef rfl (eff_soft 3 rfl Z rfl rfl (.bool _ _) cn_4 rfl rfl) ?_);rintro _ P0 T;have ⟨g,z⟩:=Ess f T (all_pB (Or.inl I));have A:=slRep.sim A T;refine Ro 15 ?_;intro a hK;exact ⟨D,nr,(wrap .i64 ((wrap .i64 ((wrap .i64 ((wrap .i64 (B + 1)) + 1)) + 1)) + 1)),(wrap .i64 (C + 1)),hK.sub rfl,g,(by omega),A,hF⟩
      · intro hF;refine Rc 12 ?_;cases szt hF;exact Ne rfl rfl ⟨_,rfl,rfl,P⟩
def F_g_L1 (a0:List Int) (k0:Int→Int→Option Int):Nat→Int→Int→Option Int
  | 0, _, _=>none
  | m + 1, i5, i6=>(bif decide (i6 < (a0.length:Int)) then ((getI a0 i6).bind fun x8=>(F_g_L1 a0 k0 m (wrap .i64 (i5 + 1)) (wrap .i64 (i6 + 1)))) else (k0 i5 i6))
def F_g (n:Nat) (a0:List Int) (a1:Int):Option Int:=(F_g_L1 a0 (fun i5 i6=>(some i5)) n a1 0)
theorem W_g {E:List Int} {H:Int} {r:Int} {lo hi:Nat} {G:Value} (hF:F_g n E H = some r) (hlh:hi ≤ w.heap.size) (L:slRep (cIntS .i64) w (Iv lo hi) E G) :
    Calls prog 13 [G,.i H].toArray w (Ret fun u Q => u = .i r∧Sim (Iv lo hi) w Q):=by
  refine calls_ofD func13 rfl ntmps13 ?_;have N:Sim (Iv lo hi) w w:=Sim.refl _ w;unfold F_g at hF;refine Rc 12 ?_;refine WC.loopD (fun D a wl => ∃ (A:Int) (C:Int),Kn 19 [(0,G),(1,.i A),(5,.i C)] a∧Sim (Iv lo hi) w wl∧w.heap.size ≤ wl.heap.size∧slRep (cIntS .i64) wl (Iv lo hi) E G∧F_g_L1 E (fun A C => (some A)) D A C = some r) n ?_ ?_
  · intro a hK;exact ⟨H,0,hK.sub rfl,N,Nat.le_refl _,L,hF⟩
  · rintro D a V ⟨A,C,hK,J,S,B,hF⟩;revert a;change WC _ _ _ _ _ _
    cases D with
    | zero => exact nos hF
    | succ D =>
      rw [F_g_L1.eq_2] at hF;refine Rc 5 (Yl rfl (yle rfl underlying33 B) (Ro 3 (Wc rfl hF ?_ ?_)))
      · intro hF;refine Rc 9 ?_;have ⟨W,P,hF⟩:=bsome hF;refine Ye rfl (yix rfl underlying33 cn_2 B P) ?_;rintro _ ⟨I,T,_,rfl,F,⟨X,rfl⟩,M⟩;have F:lo ≤ I∧I < hi:=⟨F.1,by have:=F.2;omega⟩;refine Ef rfl (eff_soft 0 rfl M rfl rfl (.int _ _ _) cn_2 rfl rfl) ?_;rintro _ U K;have ⟨O,R⟩:=Ess J K (all_pB (Or.inl F));have B:=slRep.sim B K;refine Ro 15 ?_;intro a hK;exact ⟨D,nr,(wrap .i64 (A + 1)),(wrap .i64 (C + 1)),hK.sub rfl,O,(by omega),B,hF⟩
      · intro hF;refine Rc 12 ?_;cases szt hF;exact Ne rfl rfl ⟨_,rfl,rfl,J⟩
def F_0e_L1 (n:Nat) (a0:List S_Table) (k0:Int→Int→Option Int):Nat→Int→Int→Option Int
  | 0, _, _=>none
  | m + 1, i5, i6=>(bif decide (i6 < (a0.length:Int)) then ((getI a0 i6).bind fun x8=>((F_g n x8.Slews i5).bind fun r23=>((getI a0 i6).bind fun x29=>((F_g n x29.Loads r23).bind fun r44=>((getI a0 i6).bind fun x50=>((F_g n x50.Values r44).bind fun r65=>(F_0e_L1 n a0 k0 m r65 (wrap .i64 (i6 + 1))))))))) else (k0 i5 i6))
def F_0e (n:Nat) (a0:List S_Table) (a1:Int):Option Int:=(F_0e_L1 n a0 (fun i5 i6=>(some i5)) n a1 0)
theorem W_0e {E:List S_Table} {G:Int} {r:Int} {lo hi:Nat} {F:Value} (hF:F_0e n E G = some r) (hlh:hi ≤ w.heap.size) (L:slRep C_TableS w (Iv lo hi) E F) :
    Calls prog 146 [F,.i G].toArray w (Ret fun u i => u = .i r∧Sim (Iv lo hi) w i):=by
  refine calls_ofD func146 rfl ntmps146 ?_;have P:Sim (Iv lo hi) w w:=Sim.refl _ w;unfold F_0e at hF;refine Rc 12 ?_;refine WC.loopD (fun D a wl => ∃ (B:Int) (C:Int),Kn 34 [(0,F),(1,.i B),(5,.i C)] a∧Sim (Iv lo hi) w wl∧w.heap.size ≤ wl.heap.size∧slRep C_TableS wl (Iv lo hi) E F∧F_0e_L1 n E (fun B C => (some B)) D B C = some r) n ?_ ?_
  · intro a hK;exact ⟨G,0,hK.sub rfl,P,Nat.le_refl _,L,hF⟩
  · rintro D a W0 ⟨B,C,hK,H,D0,A,hF⟩;revert a;change WC _ _ _ _ _ _
    cases D with
    | zero => exact nos hF
    | succ D =>
      rw [F_0e_L1.eq_2] at hF;refine Rc 5 (Yl rfl (yle rfl underlying72 A) (Ro 3 (Wc rfl hF ?_ ?_)))
      · intro hF;refine Rc 8 ?_;have ⟨Z0,d,hF⟩:=bsome hF;refine Ye rfl (yix rfl underlying72 cn_231 A d) ?_;rintro _ ⟨j,E0,J0,rfl,o,T,M⟩;obtain ⟨M0,N0,O0,rfl,Z,s,t⟩:=C_TableS_open T;refine Yl rfl (yfa rfl fo_231_0) (Yl rfl (ylc 0 rfl ag_33 M rfl rfl) (Ro 1 ?_));have ⟨H0,U,hF⟩:=bsome hF;refine Ef rfl (eca rfl gf_13 (W_g U (by omega) Z :)) ?_;rintro _ V0 ⟨rfl,I⟩;have ⟨Q,A0⟩:=Ess H I (fun k h => Or.inl h);have A:=slRep.sim A I;refine Ro 7 ?_;have ⟨a0,e,hF⟩:=bsome hF;refine Ye rfl (yix rfl underlying72 cn_231 A e) ?_;rintro _ ⟨l,F0,K0,rfl,p,V,N⟩;obtain ⟨P0,Q0,R0,rfl,v,b,x⟩:=C_TableS_open V;refine Yl rfl (yfa rfl fo_231_1) (Yl rfl (ylc 1 rfl ag_33 N rfl rfl) (Ro 1 ?_));have ⟨I0,W,hF⟩:=bsome hF;refine Ef rfl (eca rfl gf_13 (W_g W (by omega) b :)) ?_;rintro _ X0 ⟨rfl,J⟩;have ⟨R,B0⟩:=Ess Q J (fun k h => Or.inl h);have A:=slRep.sim A J;refine Ro 6 ?_;have ⟨b0,f,hF⟩:=bsome hF;refine Ye rfl (yix rfl underlying72 cn_231 A f) ?_;rintro _ ⟨m,G0,L0,rfl,q,X,O⟩;obtain ⟨S0,T0,U0,rfl,y,z,c⟩:=C_TableS_open X;refine Yl rfl (yfa rfl fo_231_2) (Yl rfl (ylc 2 rfl ag_33 O rfl rfl) (Ro 1 ?_));have ⟨g,Y,hF⟩:=bsome hF;refine Ef rfl (eca rfl gf_13 (W_g Y (by omega) c :)) ?_;rintro _ Y0 ⟨rfl,K⟩;have ⟨S,C0⟩:=Ess R K (fun k h => Or.inl h);have A:=slRep.sim A K;refine Ro 10 ?_;intro a hK;exact ⟨D,nr,g,(wrap .i64 (C + 1)),hK.sub rfl,S,(by omega),A,hF⟩
      · intro hF;refine Rc 12 ?_;cases szt hF;exact Ne rfl rfl ⟨_,rfl,rfl,H⟩
def F_0u_L1 (n:Nat) (a0:List S_Arc) (k0:Int→Int→Option Int):Nat→Int→Int→Option Int
  | 0, _, _=>none
  | m + 1, i5, i6=>(bif decide (i6 < (a0.length:Int)) then ((getI a0 i6).bind fun x8=>((getI a0 i6).bind fun x29=>((getI a0 i6).bind fun x50=>((getI a0 i6).bind fun x71=>((getI a0 i6).bind fun x92=>((F_0e n x92.Delay (wrap .i64 ((wrap .i64 ((wrap .i64 ((wrap .i64 (i5 + 1)) + 1)) + 1)) + 1))).bind fun r109=>((getI a0 i6).bind fun x115=>((F_0e n x115.Slew r109).bind fun r132=>(F_0u_L1 n a0 k0 m r132 (wrap .i64 (i6 + 1))))))))))) else (k0 i5 i6))
def F_0u (n:Nat) (a0:List S_Arc) (a1:Int):Option Int:=(F_0u_L1 n a0 (fun i5 i6=>(some i5)) n a1 0)
theorem W_0u {E:List S_Arc} {K:Int} {r:Int} {lo hi:Nat} {J:Value} (hF:F_0u n E K = some r) (hlh:hi ≤ w.heap.size) (W:slRep C_ArcS w (Iv lo hi) E J) :
    Calls prog 121 [J,.i K].toArray w (Ret fun u I0 => u = .i r∧Sim (Iv lo hi) w I0):=by
  refine calls_ofD func121 rfl ntmps121 ?_;have e:Sim (Iv lo hi) w w:=Sim.refl _ w;unfold F_0u at hF;refine Rc 12 ?_;refine WC.loopD (fun D a wl => ∃ (B:Int) (C:Int),Kn 55 [(0,J),(1,.i B),(5,.i C)] a∧Sim (Iv lo hi) w wl∧w.heap.size ≤ wl.heap.size∧slRep C_ArcS wl (Iv lo hi) E J∧F_0u_L1 n E (fun B C => (some B)) D B C = some r) n ?_ ?_
  · intro a hK;exact ⟨K,0,hK.sub rfl,e,Nat.le_refl _,W,hF⟩
  · rintro D a G1 ⟨B,C,hK,P,c0,A,hF⟩;revert a;change WC _ _ _ _ _ _
    cases D with
    | zero => exact nos hF
    | succ D =>
      rw [F_0u_L1.eq_2] at hF;refine Rc 5 (Yl rfl (yle rfl underlying84 A) (Ro 3 (Wc rfl hF ?_ ?_)))
      · intro hF;refine Rc 9 ?_;have ⟨K1,B0,hF⟩:=bsome hF;refine Ye rfl (yix rfl underlying84 cn_74 A B0) ?_;rintro _ ⟨L,f0,m0,rfl,F,s,Z⟩;have F:lo ≤ L∧L < hi:=⟨F.1,by have:=F.2;omega⟩;obtain ⟨Y1,Z1,a1,b1,v0,w0,rfl,P0,Q0⟩:=C_ArcS_open s;refine Yl rfl (yfa rfl fo_74_0) (Ef rfl (eff_soft 0 rfl Z rfl rfl (.int _ _ _) cn_2 rfl rfl) ?_);rintro _ F1 S;have ⟨i,Z0⟩:=Ess P S (all_pB (Or.inl F));have A:=slRep.sim A S;refine Ro 14 ?_;have ⟨M1,D0,hF⟩:=bsome hF;refine Ye rfl (yix rfl underlying84 cn_74 A D0) ?_;rintro _ ⟨M,g0,n0,rfl,G,t,b⟩;have G:lo ≤ M∧M < hi:=⟨G.1,by have:=G.2;omega⟩;obtain ⟨c1,d1,e1,f1,x0,y0,rfl,R0,S0⟩:=C_ArcS_open t;refine Yl rfl (yfa rfl fo_74_1) (Ef rfl (eff_soft 1 rfl b rfl rfl (.int _ _ _) cn_2 rfl rfl) ?_);rintro _ H1 T;have ⟨j,a0⟩:=Ess i T (all_pB (Or.inl G));have A:=slRep.sim A T;refine Ro 14 ?_;have ⟨N1,E0,hF⟩:=bsome hF;refine Ye rfl (yix rfl underlying84 cn_74 A E0) ?_;rintro _ ⟨N,h0,o0,rfl,H,v,c⟩;have H:lo ≤ N∧N < hi:=⟨H.1,by have:=H.2;omega⟩;obtain ⟨g1,h1,i1,j1,z0,A1,rfl,T0,U0⟩:=C_ArcS_open v;refine Yl rfl (yfa rfl fo_74_2) (Ef rfl (eff_soft 2 rfl c rfl rfl (.int _ _ _) cn_2 rfl rfl) ?_);rintro _ I1 U;have ⟨l,b0⟩:=Ess j U (all_pB (Or.inl H));have A:=slRep.sim A U;refine Ro 14 ?_;have ⟨O1,F0,hF⟩:=bsome hF;refine Ye rfl (yix rfl underlying84 cn_74 A F0) ?_;rintro _ ⟨O,i0,p0,rfl,I,x,d⟩;have I:lo ≤ O∧O < hi:=⟨I.1,by have:=I.2;omega⟩;obtain ⟨k1,l1,m1,n1,B1,C1,rfl,V0,W0⟩:=C_ArcS_open x;refine Yl rfl (yfa rfl fo_74_3) (Ef rfl (eff_soft 3 rfl d rfl rfl (.int _ _ _) cn_2 rfl rfl) ?_);rintro _ J1 V;have ⟨m,d0⟩:=Ess l V (all_pB (Or.inl I));have A:=slRep.sim A V;refine Ro 13 ?_;have ⟨P1,G0,hF⟩:=bsome hF;refine Ye rfl (yix rfl underlying84 cn_74 A G0) ?_;rintro _ ⟨K0,j0,q0,rfl,L0,y,X⟩;obtain ⟨Q1,R1,S1,T1,r0,s0,rfl,z,N0⟩:=C_ArcS_open y;refine Yl rfl (yfa rfl fo_74_4) (Yl rfl (ylc 4 rfl ag_72 X rfl rfl) (Ro 1 ?_));have ⟨k0,o,hF⟩:=bsome hF;refine Ef rfl (eca rfl gf_146 (W_0e o (by omega) z :)) ?_;rintro _ D1 ⟨rfl,Q⟩;have ⟨f,X0⟩:=Ess m Q (fun k h => Or.inl h);have A:=slRep.sim A Q;refine Ro 6 ?_;have ⟨L1,C0,hF⟩:=bsome hF;refine Ye rfl (yix rfl underlying84 cn_74 A C0) ?_;rintro _ ⟨J0,e0,l0,rfl,M0,p,Y⟩;obtain ⟨U1,V1,W1,X1,t0,u0,rfl,O0,A0⟩:=C_ArcS_open p;refine Yl rfl (yfa rfl fo_74_5) (Yl rfl (ylc 5 rfl ag_72 Y rfl rfl) (Ro 1 ?_));have ⟨H0,q,hF⟩:=bsome hF;refine Ef rfl (eca rfl gf_146 (W_0e q (by omega) A0 :)) ?_;rintro _ E1 ⟨rfl,R⟩;have ⟨g,Y0⟩:=Ess f R (fun k h => Or.inl h);have A:=slRep.sim A R;refine Ro 10 ?_;intro a hK;exact ⟨D,nr,H0,(wrap .i64 (C + 1)),hK.sub rfl,g,(by omega),A,hF⟩
      · intro hF;refine Rc 12 ?_;cases szt hF;exact Ne rfl rfl ⟨_,rfl,rfl,P⟩
def F_0v_L1 (n:Nat) (a0:List S_Cell) (k0:Int→Int→Option Int):Nat→Int→Int→Option Int
  | 0, _, _=>none
  | m + 1, i5, i6=>(bif decide (i6 < (a0.length:Int)) then ((F_x n i5).bind fun r8=>((getI a0 i6).bind fun x14=>((getI a0 i6).bind fun x37=>((getI a0 i6).bind fun x60=>((F_0t n x60.Pins (wrap .i64 ((wrap .i64 (i5 + 1)) + 1))).bind fun r79=>((getI a0 i6).bind fun x85=>((F_0u n x85.Arcs r79).bind fun r104=>((getI a0 i6).bind fun x110=>((F_g n x110.Truth r104).bind fun r129=>((getI a0 i6).bind fun x135=>((getI a0 i6).bind fun x158=>(F_0v_L1 n a0 k0 m (wrap .i64 ((wrap .i64 (r129 + 1)) + 1)) (wrap .i64 (i6 + 1)))))))))))))) else (k0 i5 i6))
def F_0v (n:Nat) (a0:List S_Cell) (a1:Int):Option Int:=(F_0v_L1 n a0 (fun i5 i6=>(some i5)) n a1 0)
theorem W_0v {E:List S_Cell} {K:Int} {r:Int} {lo hi:Nat} {J:Value} (hF:F_0v n E K = some r) (hlh:hi ≤ w.heap.size) (Y:slRep C_CellS w (Iv lo hi) E J) :
    Calls prog 85 [J,.i K].toArray w (Ret fun u S0 => u = .i r∧Sim (Iv lo hi) w S0):=by
  refine calls_ofD func85 rfl ntmps85 ?_;have i:Sim (Iv lo hi) w w:=Sim.refl _ w;unfold F_0v at hF;refine Rc 12 ?_;refine WC.loopD (fun D a wl => ∃ (B:Int) (C:Int),Kn 63 [(0,J),(1,.i B),(5,.i C)] a∧Sim (Iv lo hi) w wl∧w.heap.size ≤ wl.heap.size∧slRep C_CellS wl (Iv lo hi) E J∧F_0v_L1 n E (fun B C => (some B)) D B C = some r) n ?_ ?_
  · intro a hK;exact ⟨K,0,hK.sub rfl,i,Nat.le_refl _,Y,hF⟩
  · rintro D a r1 ⟨B,C,hK,P,z0,A,hF⟩;revert a;change WC _ _ _ _ _ _
    cases D with
    | zero => exact nos hF
    | succ D =>
      rw [F_0v_L1.eq_2] at hF;refine Rc 5 (Yl rfl (yle rfl underlying37 A) (Ro 3 (Wc rfl hF ?_ ?_)))
      · intro hF;refine Rc 9 ?_;have ⟨H1,x,hF⟩:=bsome hF;refine Ef rfl (eca rfl gf_119 (W_x x :)) ?_;rintro _ n1 ⟨rfl,X⟩;have ⟨m,t0⟩:=Est P X;have A:=A.old X (by omega);have ⟨x1,N0,hF⟩:=bsome hF;refine Ye rfl (yix rfl underlying37 cn_86 A N0) ?_;rintro _ ⟨N,D1,N1,rfl,H,C0,d⟩;have H:lo ≤ N∧N < hi:=⟨H.1,by have:=H.2;omega⟩;obtain ⟨O2,P2,Q2,R2,d1,e1,f1,rfl,j0,k0,l0⟩:=C_CellS_open C0;refine Yl rfl (yfa rfl fo_86_0) (Ef rfl (eff_soft 0 rfl d rfl rfl (.str _ _) cn_9 rfl rfl) ?_);rintro _ s1 U;have ⟨q,w0⟩:=Ess m U (all_pB (Or.inl H));have A:=slRep.sim A U;refine Ro 14 ?_;have ⟨z1,O0,hF⟩:=bsome hF;refine Ye rfl (yix rfl underlying37 cn_86 A O0) ?_;rintro _ ⟨O,E1,O1,rfl,I,D0,e⟩;have I:lo ≤ O∧O < hi:=⟨I.1,by have:=I.2;omega⟩;obtain ⟨S2,T2,U2,V2,g1,h1,i1,rfl,m0,n0,o0⟩:=C_CellS_open D0;refine Yl rfl (yfa rfl fo_86_1) (Ef rfl (eff_soft 1 rfl e rfl rfl (.int _ _ _) cn_2 rfl rfl) ?_);rintro _ t1 V;have ⟨s,x0⟩:=Ess q V (all_pB (Or.inl I));have A:=slRep.sim A V;refine Ro 13 ?_;have ⟨A2,P0,hF⟩:=bsome hF;refine Ye rfl (yix rfl underlying37 cn_86 A P0) ?_;rintro _ ⟨U0,F1,P1,rfl,X0,E0,f⟩;obtain ⟨W2,X2,Y2,Z2,j1,k1,l1,rfl,J0,p0,q0⟩:=C_CellS_open E0;refine Yl rfl (yfa rfl fo_86_2) (Yl rfl (ylc 2 rfl ag_83 f rfl rfl) (Ro 1 ?_));have ⟨J1,F0,hF⟩:=bsome hF;refine Ef rfl (eca rfl gf_120 (W_0t F0 (by omega) J0 :)) ?_;rintro _ u1 ⟨rfl,W⟩;have ⟨t,y0⟩:=Ess s W (fun k h => Or.inl h);have A:=slRep.sim A W;refine Ro 7 ?_;have ⟨B2,Q0,hF⟩:=bsome hF;refine Ye rfl (yix rfl underlying37 cn_86 A Q0) ?_;rintro _ ⟨V0,G1,Q1,rfl,Y0,G0,g⟩;obtain ⟨a2,b2,c2,d2,R1,S1,T1,rfl,Z0,H0,a0⟩:=C_CellS_open G0;refine Yl rfl (yfa rfl fo_86_3) (Yl rfl (ylc 3 rfl ag_84 g rfl rfl) (Ro 1 ?_));have ⟨I1,v,hF⟩:=bsome hF;refine Ef rfl (eca rfl gf_121 (W_0u v (by omega) H0 :)) ?_;rintro _ m1 ⟨rfl,Q⟩;have ⟨j,r0⟩:=Ess t Q (fun k h => Or.inl h);have A:=slRep.sim A Q;refine Ro 7 ?_;have ⟨v1,K0,hF⟩:=bsome hF;refine Ye rfl (yix rfl underlying37 cn_86 A K0) ?_;rintro _ ⟨T0,A1,K1,rfl,W0,y,Z⟩;obtain ⟨C2,D2,E2,F2,U1,V1,W1,rfl,b0,c0,I0⟩:=C_CellS_open y;refine Yl rfl (yfa rfl fo_86_4) (Yl rfl (ylc 4 rfl ag_33 Z rfl rfl) (Ro 1 ?_));have ⟨R0,z,hF⟩:=bsome hF;refine Ef rfl (eca rfl gf_13 (W_g z (by omega) I0 :)) ?_;rintro _ o1 ⟨rfl,R⟩;have ⟨l,s0⟩:=Ess j R (fun k h => Or.inl h);have A:=slRep.sim A R;refine Ro 8 ?_;have ⟨w1,L0,hF⟩:=bsome hF;refine Ye rfl (yix rfl underlying37 cn_86 A L0) ?_;rintro _ ⟨L,B1,L1,rfl,F,A0,b⟩;have F:lo ≤ L∧L < hi:=⟨F.1,by have:=F.2;omega⟩;obtain ⟨G2,H2,I2,J2,X1,Y1,Z1,rfl,d0,e0,f0⟩:=C_CellS_open A0;refine Yl rfl (yfa rfl fo_86_5) (Ef rfl (eff_soft 5 rfl b rfl rfl (.int _ _ _) cn_2 rfl rfl) ?_);rintro _ p1 S;have ⟨o,u0⟩:=Ess l S (all_pB (Or.inl F));have A:=slRep.sim A S;refine Ro 14 ?_;have ⟨y1,M0,hF⟩:=bsome hF;refine Ye rfl (yix rfl underlying37 cn_86 A M0) ?_;rintro _ ⟨M,C1,M1,rfl,G,B0,c⟩;have G:lo ≤ M∧M < hi:=⟨G.1,by have:=G.2;omega⟩;obtain ⟨K2,L2,M2,N2,a1,b1,c1,rfl,g0,h0,i0⟩:=C_CellS_open B0;refine Yl rfl (yfa rfl fo_86_6) (Ef rfl (eff_soft 6 rfl c rfl rfl (.int _ _ _) cn_2 rfl rfl) ?_);rintro _ q1 T;have ⟨p,v0⟩:=Ess o T (all_pB (Or.inl G));have A:=slRep.sim A T;refine Ro 15 ?_;intro a hK;exact ⟨D,nr,(wrap .i64 ((wrap .i64 (R0 + 1)) + 1)),(wrap .i64 (C + 1)),hK.sub rfl,p,(by omega),A,hF⟩
      · intro hF;refine Rc 12 ?_;cases szt hF;exact Ne rfl rfl ⟨_,rfl,rfl,P⟩
def F_0w_L1 (n:Nat) (a0:List S_Instance) (k0:Int→Int→Option Int):Nat→Int→Int→Option Int
  | 0, _, _=>none
  | m + 1, i5, i6=>(bif decide (i6 < (a0.length:Int)) then ((F_x n i5).bind fun r8=>((getI a0 i6).bind fun x14=>((getI a0 i6).bind fun x31=>((getI a0 i6).bind fun x48=>((F_g n x48.Nets (wrap .i64 ((wrap .i64 (i5 + 1)) + 1))).bind fun r61=>(F_0w_L1 n a0 k0 m r61 (wrap .i64 (i6 + 1)))))))) else (k0 i5 i6))
def F_0w (n:Nat) (a0:List S_Instance) (a1:Int):Option Int:=(F_0w_L1 n a0 (fun i5 i6=>(some i5)) n a1 0)
theorem W_0w {E:List S_Instance} {I:Int} {r:Int} {lo hi:Nat} {H:Value} (hF:F_0w n E I = some r) (hlh:hi ≤ w.heap.size) (Q:slRep C_InstanceS w (Iv lo hi) E H) :
    Calls prog 86 [H,.i I].toArray w (Ret fun u m => u = .i r∧Sim (Iv lo hi) w m):=by
  refine calls_ofD func86 rfl ntmps86 ?_;have U:Sim (Iv lo hi) w w:=Sim.refl _ w;unfold F_0w at hF;refine Rc 12 ?_;refine WC.loopD (fun D a wl => ∃ (B:Int) (C:Int),Kn 35 [(0,H),(1,.i B),(5,.i C)] a∧Sim (Iv lo hi) w wl∧w.heap.size ≤ wl.heap.size∧slRep C_InstanceS wl (Iv lo hi) E H∧F_0w_L1 n E (fun B C => (some B)) D B C = some r) n ?_ ?_
  · intro a hK;exact ⟨I,0,hK.sub rfl,U,Nat.le_refl _,Q,hF⟩
  · rintro D a M0 ⟨B,C,hK,L,z,A,hF⟩;revert a;change WC _ _ _ _ _ _
    cases D with
    | zero => exact nos hF
    | succ D =>
      rw [F_0w_L1.eq_2] at hF;refine Rc 5 (Yl rfl (yle rfl underlying40 A) (Ro 3 (Wc rfl hF ?_ ?_)))
      · intro hF;refine Rc 9 ?_;have ⟨D0,Z,hF⟩:=bsome hF;refine Ef rfl (eca rfl gf_119 (W_x Z :)) ?_;rintro _ K0 ⟨rfl,P⟩;have ⟨V,t⟩:=Est L P;have A:=A.old P (by omega);have ⟨P0,g,hF⟩:=bsome hF;refine Ye rfl (yix rfl underlying40 cn_88 A g) ?_;rintro _ ⟨J,A0,E0,rfl,F,b,R⟩;have F:lo ≤ J∧J < hi:=⟨F.1,by have:=F.2;omega⟩;obtain ⟨S0,T0,H0,rfl,q⟩:=C_InstanceS_open b;refine Yl rfl (yfa rfl fo_88_0) (Ef rfl (eff_soft 0 rfl R rfl rfl (.str _ _) cn_9 rfl rfl) ?_);rintro _ L0 M;have ⟨W,v⟩:=Ess V M (all_pB (Or.inl F));have A:=slRep.sim A M;refine Ro 14 ?_;have ⟨Q0,i,hF⟩:=bsome hF;refine Ye rfl (yix rfl underlying40 cn_88 A i) ?_;rintro _ ⟨K,B0,F0,rfl,G,c,S⟩;have G:lo ≤ K∧K < hi:=⟨G.1,by have:=G.2;omega⟩;obtain ⟨U0,V0,I0,rfl,s⟩:=C_InstanceS_open c;refine Yl rfl (yfa rfl fo_88_1) (Ef rfl (eff_soft 1 rfl S rfl rfl (.int _ _ _) cn_2 rfl rfl) ?_);rintro _ N0 N;have ⟨X,x⟩:=Ess W N (all_pB (Or.inl G));have A:=slRep.sim A N;refine Ro 12 ?_;have ⟨R0,j,hF⟩:=bsome hF;refine Ye rfl (yix rfl underlying40 cn_88 A j) ?_;rintro _ ⟨o,C0,G0,rfl,p,d,T⟩;obtain ⟨W0,X0,J0,rfl,f⟩:=C_InstanceS_open d;refine Yl rfl (yfa rfl fo_88_2) (Yl rfl (ylc 2 rfl ag_33 T rfl rfl) (Ro 1 ?_));have ⟨l,e,hF⟩:=bsome hF;refine Ef rfl (eca rfl gf_13 (W_g e (by omega) f :)) ?_;rintro _ O0 ⟨rfl,O⟩;have ⟨Y,y⟩:=Ess X O (fun k h => Or.inl h);have A:=slRep.sim A O;refine Ro 10 ?_;intro a hK;exact ⟨D,nr,l,(wrap .i64 (C + 1)),hK.sub rfl,Y,(by omega),A,hF⟩
      · intro hF;refine Rc 12 ?_;cases szt hF;exact Ne rfl rfl ⟨_,rfl,rfl,L⟩
def F_38 (n:Nat) (a0:S_Library) (a1:Int):Option Int:=((F_0v n a0.Cells a1).bind fun r10=>(some r10))
theorem W_38 {D:S_Library} {E:Int} {r:Int} {lo hi:Nat} {C:Value} (hF:F_38 n D E = some r) (hlh:hi ≤ w.heap.size) (A:slRep C_CellS w (Iv lo hi) D.Cells C) :
    Calls prog 42 [.agg #[C],.i E].toArray w (Ret fun u M => u = .i r∧Sim (Iv lo hi) w M):=by
  refine calls_ofD func42 rfl ntmps42 ?_;have I:Sim (Iv lo hi) w w:=Sim.refl _ w;unfold F_38 at hF;refine Rc 2 (Ef rfl (eff_box rfl rfl) ?_);rintro _ N ⟨H,rfl,O,P,F,B⟩;have B:Box N H [C] 39:=B;have ⟨K,R⟩:=Est I F;have A:=A.old F (by omega);refine Ro 5 (Yl rfl (yfa rfl fo_39_0) (Yl rfl (ylb rfl ag_37 B rfl) (Ro 1 ?_)));have ⟨S,L,hF⟩:=bsome hF;refine Ef rfl (eca rfl gf_85 (W_0v L (by omega) A :)) ?_;rintro _ T ⟨rfl,G⟩;have ⟨J,Q⟩:=Ess K G (fun k h => Or.inl h);have A:=slRep.sim A G;refine Ro 10 ?_;cases szt hF;exact Ne rfl rfl ⟨_,rfl,rfl,J⟩
def F_0f_L1 (a0:List Int) (k0:Int→Int→Option Int):Nat→Int→Int→Option Int
  | 0, _, _=>none
  | m + 1, i5, i6=>(bif decide (i6 < (a0.length:Int)) then ((getI a0 i6).bind fun x7=>(bif (x7 != i5) then (some (-1)) else (F_0f_L1 a0 k0 m (wrap .i64 (i5 + 1)) (wrap .i64 (i6 + 1))))) else (k0 i5 i6))
def F_0f (n:Nat) (a0:List Int) (a1:Int):Option Int:=(F_0f_L1 a0 (fun i5 i6=>(some i5)) n a1 0)
theorem W_0f {E:List Int} {F:Int} {r:Int} {G:Value} (hF:F_0f n E F = some r) (hH:H ≤ w.heap.size) (I:slRep (cInt .i64) w (Iv 0 H) E G) :
    Calls prog 14 [G,.i F].toArray w (Ret fun u M => u = .i r∧Ext w M):=by
  refine calls_ofD func14 rfl ntmps14 ?_;have K:=Ext.refl w;unfold F_0f at hF;refine Rc 12 ?_;refine WC.loopD (fun D a wl => ∃ (A:Int) (C:Int),Kn 21 [(0,G),(1,.i A),(5,.i C)] a∧Ext w wl∧w.heap.size ≤ wl.heap.size∧F_0f_L1 E (fun A C => (some A)) D A C = some r) n ?_ ?_
  · intro a hK;exact ⟨F,0,hK.sub rfl,K,Nat.le_refl _,hF⟩
  · rintro D a R ⟨A,C,hK,B,P,hF⟩;revert a;change WC _ _ _ _ _ _
    cases D with
    | zero => exact nos hF
    | succ D =>
      rw [F_0f_L1.eq_2] at hF;refine Rc 5 (Yl rfl (yle rfl underlying33 (I.oh hH B)) (Ro 3 (Wc rfl hF ?_ ?_)))
      · intro hF;refine Rc 9 ?_;have ⟨S,L,hF⟩:=bsome hF;refine Ye rfl (yix rfl underlying33 cn_2 (I.oh hH B) L) ?_;rintro _ ⟨N,Q,_,rfl,O,rfl,J⟩;refine Yl rfl (ylc 0 rfl ag_2 J rfl rfl) (Ro 4 (Wc rfl hF ?_ ?_))
        · intro hF;refine Rc 12 ?_;cases szt hF;exact Ne rfl rfl ⟨_,rfl,rfl,B⟩
        · intro hF;refine Rc 15 ?_;intro a hK;exact ⟨D,nr,(wrap .i64 (A + 1)),(wrap .i64 (C + 1)),hK.sub rfl,B,(by omega),hF⟩
      · intro hF;refine Rc 12 ?_;cases szt hF;exact Ne rfl rfl ⟨_,rfl,rfl,B⟩

theorem Z_Int64S {n:Nat} {a:List Int} {left:Int} (hR:(fun xs=>xs.length ≤ 9223372036854775807 ∧ ∀ x ∈ xs,(inK .i64) x) a) (h0:0 ≤ left) (h1:left ≤ 1048576) (hn:1048577 ≤ n):∃ r,F_o n a left = some r ∧ r ≤ left ∧ (0 ≤ r → (fun xs=>xs.length ≤ 1048576 ∧ ∀ x ∈ xs,(fun _=>True) x) a):=by
 have hl:=hR.1
 rw [F_o,wrap64 (by omega) (by omega)]
 by_cases h:left - (a.length:Int) < 0
 ·rw [decide_eq_true h]; exact ⟨-1,rfl,by omega,fun h=>by omega⟩
 ·rw [decide_eq_false h]; exact ⟨_,rfl,by omega,fun _=>⟨by omega,fun x _=>trivial⟩⟩
theorem Z_Pin {n:Nat} {a:S_Pin} {left:Int} (hR:R_Pin a) (h0:0 ≤ left) (h1:left ≤ 1048576) (hn:1048577 ≤ n):∃ r,F_22 n a left = some r ∧ r ≤ left ∧ (0 ≤ r → SM_Pin a):=by
 rw [F_22]
 have g0:a.Name.size ≤ 9223372036854775807:=maxLen_is ▸ hR.1
 have w0:wrap .i64 (left - (a.Name.size:Int)) = left - (a.Name.size:Int):=wrap64 (by omega) (by omega)
 rw [w0]
 generalize hq0:left - (a.Name.size:Int) = r0
 by_cases h_0:r0 < 0
 ·rw [decide_eq_true h_0]; exact ⟨-1,rfl,by omega,fun h=>by omega⟩
 rw [decide_eq_false h_0,cond_false]
 exact ⟨_,rfl,by omega,fun _=>⟨(by omega),trivial,trivial,trivial⟩⟩
theorem Z_PinS {n:Nat} {a:List S_Pin} {left:Int} (hR:(fun xs=>xs.length ≤ 9223372036854775807 ∧ ∀ x ∈ xs,R_Pin x) a) (h0:0 ≤ left) (h1:left ≤ 1048576) (hn:1048577 ≤ n):∃ r,F_00 n a left = some r ∧ r ≤ left ∧ (0 ≤ r → (fun xs=>xs.length ≤ 1048576 ∧ ∀ x ∈ xs,SM_Pin x) a):=by
 have hl:=hR.1
 rw [F_00,wrap64 (by omega) (by omega)]
 by_cases h:left - (a.length:Int) < 0
 ·rw [decide_eq_true h]; exact ⟨-1,rfl,by omega,fun h=>by omega⟩
 ·rw [decide_eq_false h,cond_false]
  have ⟨r,e,hr,hs⟩:=szL (xs:=a) (L:=fun m l i=>F_00_L1 n a (fun i7 i8=>(some i7)) m l i) (f:=F_22 n) (SM:=SM_Pin) (by omega) (fun x hx left g0 g1=>Z_Pin (hR.2 x hx) g0 g1 hn) (fun m i left hi hi2=>by simp only [F_00_L1.eq_2,dltE hi,cond_true,getI_elE hi,Option.bind_some,wSE hi2]) (fun m left=>by simp only [F_00_L1.eq_2,dnlE,cond_false]) n 0 (left - (a.length:Int)) (by omega) (by omega) (by omega) (by omega) (fun j _ hj=>by omega)
  exact ⟨r,e,by omega,fun h=>⟨by omega,hs h⟩⟩
theorem Z_Table {n:Nat} {a:S_Table} {left:Int} (hR:R_Table a) (h0:0 ≤ left) (h1:left ≤ 1048576) (hn:1048577 ≤ n):∃ r,F_23 n a left = some r ∧ r ≤ left ∧ (0 ≤ r → SM_Table a):=by
 rw [F_23]
 have ⟨r0,e0,l0,s0⟩:=Z_Int64S (n:=n) (left:=left) hR.1 h0 h1 hn
 rw [e0,Option.bind_some]
 by_cases h_0:r0 < 0
 ·rw [decide_eq_true h_0]; exact ⟨-1,rfl,by omega,fun h=>by omega⟩
 rw [decide_eq_false h_0,cond_false]
 have ⟨r1,e1,l1,s1⟩:=Z_Int64S (n:=n) (left:=r0) hR.2.1 (show (0:Int) ≤ r0 by omega) (by omega) hn
 rw [e1,Option.bind_some]
 by_cases h_1:r1 < 0
 ·rw [decide_eq_true h_1]; exact ⟨-1,rfl,by omega,fun h=>by omega⟩
 rw [decide_eq_false h_1,cond_false]
 have ⟨r2,e2,l2,s2⟩:=Z_Int64S (n:=n) (left:=r1) hR.2.2 (show (0:Int) ≤ r1 by omega) (by omega) hn
 rw [e2,Option.bind_some]
 by_cases h_2:r2 < 0
 ·rw [decide_eq_true h_2]; exact ⟨-1,rfl,by omega,fun h=>by omega⟩
 rw [decide_eq_false h_2,cond_false]
 exact ⟨_,rfl,by omega,fun _=>⟨s0 (by omega),s1 (by omega),s2 (by omega)⟩⟩
theorem Z_TableS {n:Nat} {a:List S_Table} {left:Int} (hR:(fun xs=>xs.length ≤ 9223372036854775807 ∧ ∀ x ∈ xs,R_Table x) a) (h0:0 ≤ left) (h1:left ≤ 1048576) (hn:1048577 ≤ n):∃ r,F_z n a left = some r ∧ r ≤ left ∧ (0 ≤ r → (fun xs=>xs.length ≤ 1048576 ∧ ∀ x ∈ xs,SM_Table x) a):=by
 have hl:=hR.1
 rw [F_z,wrap64 (by omega) (by omega)]
 by_cases h:left - (a.length:Int) < 0
 ·rw [decide_eq_true h]; exact ⟨-1,rfl,by omega,fun h=>by omega⟩
 ·rw [decide_eq_false h,cond_false]
  have ⟨r,e,hr,hs⟩:=szL (xs:=a) (L:=fun m l i=>F_z_L1 n a (fun i7 i8=>(some i7)) m l i) (f:=F_23 n) (SM:=SM_Table) (by omega) (fun x hx left g0 g1=>Z_Table (hR.2 x hx) g0 g1 hn) (fun m i left hi hi2=>by simp only [F_z_L1.eq_2,dltE hi,cond_true,getI_elE hi,Option.bind_some,wSE hi2]) (fun m left=>by simp only [F_z_L1.eq_2,dnlE,cond_false]) n 0 (left - (a.length:Int)) (by omega) (by omega) (by omega) (by omega) (fun j _ hj=>by omega)
  exact ⟨r,e,by omega,fun h=>⟨by omega,hs h⟩⟩
theorem Z_Arc {n:Nat} {a:S_Arc} {left:Int} (hR:R_Arc a) (h0:0 ≤ left) (h1:left ≤ 1048576) (hn:1048577 ≤ n):∃ r,F_24 n a left = some r ∧ r ≤ left ∧ (0 ≤ r → SM_Arc a):=by
 rw [F_24]
 have ⟨r0,e0,l0,s0⟩:=Z_TableS (n:=n) (left:=left) hR.2.2.2.2.1 h0 h1 hn
 rw [e0,Option.bind_some]
 by_cases h_0:r0 < 0
 ·rw [decide_eq_true h_0]; exact ⟨-1,rfl,by omega,fun h=>by omega⟩
 rw [decide_eq_false h_0,cond_false]
 have ⟨r1,e1,l1,s1⟩:=Z_TableS (n:=n) (left:=r0) hR.2.2.2.2.2 (show (0:Int) ≤ r0 by omega) (by omega) hn
 rw [e1,Option.bind_some]
 by_cases h_1:r1 < 0
 ·rw [decide_eq_true h_1]; exact ⟨-1,rfl,by omega,fun h=>by omega⟩
 rw [decide_eq_false h_1,cond_false]
 exact ⟨_,rfl,by omega,fun _=>⟨trivial,trivial,trivial,trivial,s0 (by omega),s1 (by omega)⟩⟩
theorem Z_ArcS {n:Nat} {a:List S_Arc} {left:Int} (hR:(fun xs=>xs.length ≤ 9223372036854775807 ∧ ∀ x ∈ xs,R_Arc x) a) (h0:0 ≤ left) (h1:left ≤ 1048576) (hn:1048577 ≤ n):∃ r,F_01 n a left = some r ∧ r ≤ left ∧ (0 ≤ r → (fun xs=>xs.length ≤ 1048576 ∧ ∀ x ∈ xs,SM_Arc x) a):=by
 have hl:=hR.1
 rw [F_01,wrap64 (by omega) (by omega)]
 by_cases h:left - (a.length:Int) < 0
 ·rw [decide_eq_true h]; exact ⟨-1,rfl,by omega,fun h=>by omega⟩
 ·rw [decide_eq_false h,cond_false]
  have ⟨r,e,hr,hs⟩:=szL (xs:=a) (L:=fun m l i=>F_01_L1 n a (fun i7 i8=>(some i7)) m l i) (f:=F_24 n) (SM:=SM_Arc) (by omega) (fun x hx left g0 g1=>Z_Arc (hR.2 x hx) g0 g1 hn) (fun m i left hi hi2=>by simp only [F_01_L1.eq_2,dltE hi,cond_true,getI_elE hi,Option.bind_some,wSE hi2]) (fun m left=>by simp only [F_01_L1.eq_2,dnlE,cond_false]) n 0 (left - (a.length:Int)) (by omega) (by omega) (by omega) (by omega) (fun j _ hj=>by omega)
  exact ⟨r,e,by omega,fun h=>⟨by omega,hs h⟩⟩
theorem Z_Cell {n:Nat} {a:S_Cell} {left:Int} (hR:R_Cell a) (h0:0 ≤ left) (h1:left ≤ 1048576) (hn:1048577 ≤ n):∃ r,F_25 n a left = some r ∧ r ≤ left ∧ (0 ≤ r → SM_Cell a):=by
 rw [F_25]
 have g0:a.Name.size ≤ 9223372036854775807:=maxLen_is ▸ hR.1
 have w0:wrap .i64 (left - (a.Name.size:Int)) = left - (a.Name.size:Int):=wrap64 (by omega) (by omega)
 rw [w0]
 generalize hq0:left - (a.Name.size:Int) = r0
 by_cases h_0:r0 < 0
 ·rw [decide_eq_true h_0]; exact ⟨-1,rfl,by omega,fun h=>by omega⟩
 rw [decide_eq_false h_0,cond_false]
 have ⟨r1,e1,l1,s1⟩:=Z_PinS (n:=n) (left:=r0) hR.2.2.1 (show (0:Int) ≤ r0 by omega) (by omega) hn
 rw [e1,Option.bind_some]
 by_cases h_1:r1 < 0
 ·rw [decide_eq_true h_1]; exact ⟨-1,rfl,by omega,fun h=>by omega⟩
 rw [decide_eq_false h_1,cond_false]
 have ⟨r2,e2,l2,s2⟩:=Z_ArcS (n:=n) (left:=r1) hR.2.2.2.1 (show (0:Int) ≤ r1 by omega) (by omega) hn
 rw [e2,Option.bind_some]
 by_cases h_2:r2 < 0
 ·rw [decide_eq_true h_2]; exact ⟨-1,rfl,by omega,fun h=>by omega⟩
 rw [decide_eq_false h_2,cond_false]
 have ⟨r3,e3,l3,s3⟩:=Z_Int64S (n:=n) (left:=r2) hR.2.2.2.2.1 (show (0:Int) ≤ r2 by omega) (by omega) hn
 rw [e3,Option.bind_some]
 by_cases h_3:r3 < 0
 ·rw [decide_eq_true h_3]; exact ⟨-1,rfl,by omega,fun h=>by omega⟩
 rw [decide_eq_false h_3,cond_false]
 exact ⟨_,rfl,by omega,fun _=>⟨(by omega),trivial,s1 (by omega),s2 (by omega),s3 (by omega),trivial,trivial⟩⟩
theorem Z_CellS {n:Nat} {a:List S_Cell} {left:Int} (hR:(fun xs=>xs.length ≤ 9223372036854775807 ∧ ∀ x ∈ xs,R_Cell x) a) (h0:0 ≤ left) (h1:left ≤ 1048576) (hn:1048577 ≤ n):∃ r,F_02 n a left = some r ∧ r ≤ left ∧ (0 ≤ r → (fun xs=>xs.length ≤ 1048576 ∧ ∀ x ∈ xs,SM_Cell x) a):=by
 have hl:=hR.1
 rw [F_02,wrap64 (by omega) (by omega)]
 by_cases h:left - (a.length:Int) < 0
 ·rw [decide_eq_true h]; exact ⟨-1,rfl,by omega,fun h=>by omega⟩
 ·rw [decide_eq_false h,cond_false]
  have ⟨r,e,hr,hs⟩:=szL (xs:=a) (L:=fun m l i=>F_02_L1 n a (fun i7 i8=>(some i7)) m l i) (f:=F_25 n) (SM:=SM_Cell) (by omega) (fun x hx left g0 g1=>Z_Cell (hR.2 x hx) g0 g1 hn) (fun m i left hi hi2=>by simp only [F_02_L1.eq_2,dltE hi,cond_true,getI_elE hi,Option.bind_some,wSE hi2]) (fun m left=>by simp only [F_02_L1.eq_2,dnlE,cond_false]) n 0 (left - (a.length:Int)) (by omega) (by omega) (by omega) (by omega) (fun j _ hj=>by omega)
  exact ⟨r,e,by omega,fun h=>⟨by omega,hs h⟩⟩
theorem Z_Library {n:Nat} {a:S_Library} {left:Int} (hR:R_Library a) (h0:0 ≤ left) (h1:left ≤ 1048576) (hn:1048577 ≤ n):∃ r,F_2a n a left = some r ∧ r ≤ left ∧ (0 ≤ r → SM_Library a):=by
 rw [F_2a]
 have ⟨r0,e0,l0,s0⟩:=Z_CellS (n:=n) (left:=left) hR h0 h1 hn
 rw [e0,Option.bind_some]
 by_cases h_0:r0 < 0
 ·rw [decide_eq_true h_0]; exact ⟨-1,rfl,by omega,fun h=>by omega⟩
 rw [decide_eq_false h_0,cond_false]
 exact ⟨_,rfl,by omega,fun _=>s0 (by omega)⟩
theorem Z_Instance {n:Nat} {a:S_Instance} {left:Int} (hR:R_Instance a) (h0:0 ≤ left) (h1:left ≤ 1048576) (hn:1048577 ≤ n):∃ r,F_26 n a left = some r ∧ r ≤ left ∧ (0 ≤ r → SM_Instance a):=by
 rw [F_26]
 have g0:a.Name.size ≤ 9223372036854775807:=maxLen_is ▸ hR.1
 have w0:wrap .i64 (left - (a.Name.size:Int)) = left - (a.Name.size:Int):=wrap64 (by omega) (by omega)
 rw [w0]
 generalize hq0:left - (a.Name.size:Int) = r0
 by_cases h_0:r0 < 0
 ·rw [decide_eq_true h_0]; exact ⟨-1,rfl,by omega,fun h=>by omega⟩
 rw [decide_eq_false h_0,cond_false]
 have ⟨r1,e1,l1,s1⟩:=Z_Int64S (n:=n) (left:=r0) hR.2.2 (show (0:Int) ≤ r0 by omega) (by omega) hn
 rw [e1,Option.bind_some]
 by_cases h_1:r1 < 0
 ·rw [decide_eq_true h_1]; exact ⟨-1,rfl,by omega,fun h=>by omega⟩
 rw [decide_eq_false h_1,cond_false]
 exact ⟨_,rfl,by omega,fun _=>⟨(by omega),trivial,s1 (by omega)⟩⟩
theorem Z_InstanceS {n:Nat} {a:List S_Instance} {left:Int} (hR:(fun xs=>xs.length ≤ 9223372036854775807 ∧ ∀ x ∈ xs,R_Instance x) a) (h0:0 ≤ left) (h1:left ≤ 1048576) (hn:1048577 ≤ n):∃ r,F_03 n a left = some r ∧ r ≤ left ∧ (0 ≤ r → (fun xs=>xs.length ≤ 1048576 ∧ ∀ x ∈ xs,SM_Instance x) a):=by
 have hl:=hR.1
 rw [F_03,wrap64 (by omega) (by omega)]
 by_cases h:left - (a.length:Int) < 0
 ·rw [decide_eq_true h]; exact ⟨-1,rfl,by omega,fun h=>by omega⟩
 ·rw [decide_eq_false h,cond_false]
  have ⟨r,e,hr,hs⟩:=szL (xs:=a) (L:=fun m l i=>F_03_L1 n a (fun i7 i8=>(some i7)) m l i) (f:=F_26 n) (SM:=SM_Instance) (by omega) (fun x hx left g0 g1=>Z_Instance (hR.2 x hx) g0 g1 hn) (fun m i left hi hi2=>by simp only [F_03_L1.eq_2,dltE hi,cond_true,getI_elE hi,Option.bind_some,wSE hi2]) (fun m left=>by simp only [F_03_L1.eq_2,dnlE,cond_false]) n 0 (left - (a.length:Int)) (by omega) (by omega) (by omega) (by omega) (fun j _ hj=>by omega)
  exact ⟨r,e,by omega,fun h=>⟨by omega,hs h⟩⟩
theorem Z_StringS {n:Nat} {a:List ByteArray} {left:Int} (hR:(fun xs=>xs.length ≤ 9223372036854775807 ∧ ∀ x ∈ xs,(fun s=>s.size ≤ maxLen) x) a) (h0:0 ≤ left) (h1:left ≤ 1048576) (hn:1048577 ≤ n):∃ r,F_04 n a left = some r ∧ r ≤ left ∧ (0 ≤ r → (fun xs=>xs.length ≤ 1048576 ∧ ∀ x ∈ xs,(fun s=>s.size ≤ 1048576) x) a):=by
 have hl:=hR.1
 rw [F_04,wrap64 (by omega) (by omega)]
 by_cases h:left - (a.length:Int) < 0
 ·rw [decide_eq_true h]; exact ⟨-1,rfl,by omega,fun h=>by omega⟩
 ·rw [decide_eq_false h,cond_false]
  have ⟨r,e,hr,hs⟩:=szL (xs:=a) (L:=fun m l i=>F_04_L1 a (fun i5 i6=>(some i5)) m l i) (f:=fun (x:ByteArray) (l:Int)=>bif decide (wrap .i64 (l - (x.size:Int)) < 0) then some (-1) else some (wrap .i64 (l - (x.size:Int)))) (SM:=fun s=>s.size ≤ 1048576) (by omega) (fun x hx l g0 g1=>by
   have g:=hR.2 x hx
   have g:(x.size:Int) ≤ 9223372036854775807:=by rw [maxLen_is] at g; omega
   rw [wrap64 (by omega) (by omega)]
   by_cases h1:l - (x.size:Int) < 0
   ·exact ⟨-1,by rw [decide_eq_true h1]; rfl,by omega,fun h=>by omega⟩
   ·exact ⟨_,by rw [decide_eq_false h1]; rfl,by omega,fun _=>by omega⟩) (fun m i l hi hi2=>by
   simp only [F_04_L1.eq_2,dltE hi,cond_true,getI_elE hi,Option.bind_some,wSE hi2]
   cases h1:decide (wrap .i64 (l - (a[i].size:Int)) < 0) with
   | true=>simp
   | false=>simp only [cond_false,Option.bind_some,h1]) (fun m left=>by simp only [F_04_L1.eq_2,dnlE,cond_false]) n 0 (left - (a.length:Int)) (by omega) (by omega) (by omega) (by omega) (fun j _ hj=>by omega)
  exact ⟨r,e,by omega,fun h=>⟨by omega,hs h⟩⟩
theorem Z_Port {n:Nat} {a:S_Port} {left:Int} (hR:R_Port a) (h0:0 ≤ left) (h1:left ≤ 1048576) (hn:1048577 ≤ n):∃ r,F_27 n a left = some r ∧ r ≤ left ∧ (0 ≤ r → SM_Port a):=by
 rw [F_27]
 have g0:a.Name.size ≤ 9223372036854775807:=maxLen_is ▸ hR.1
 have w0:wrap .i64 (left - (a.Name.size:Int)) = left - (a.Name.size:Int):=wrap64 (by omega) (by omega)
 rw [w0]
 generalize hq0:left - (a.Name.size:Int) = r0
 by_cases h_0:r0 < 0
 ·rw [decide_eq_true h_0]; exact ⟨-1,rfl,by omega,fun h=>by omega⟩
 rw [decide_eq_false h_0,cond_false]
 exact ⟨_,rfl,by omega,fun _=>⟨(by omega),trivial,trivial⟩⟩
theorem Z_PortS {n:Nat} {a:List S_Port} {left:Int} (hR:(fun xs=>xs.length ≤ 9223372036854775807 ∧ ∀ x ∈ xs,R_Port x) a) (h0:0 ≤ left) (h1:left ≤ 1048576) (hn:1048577 ≤ n):∃ r,F_05 n a left = some r ∧ r ≤ left ∧ (0 ≤ r → (fun xs=>xs.length ≤ 1048576 ∧ ∀ x ∈ xs,SM_Port x) a):=by
 have hl:=hR.1
 rw [F_05,wrap64 (by omega) (by omega)]
 by_cases h:left - (a.length:Int) < 0
 ·rw [decide_eq_true h]; exact ⟨-1,rfl,by omega,fun h=>by omega⟩
 ·rw [decide_eq_false h,cond_false]
  have ⟨r,e,hr,hs⟩:=szL (xs:=a) (L:=fun m l i=>F_05_L1 n a (fun i7 i8=>(some i7)) m l i) (f:=F_27 n) (SM:=SM_Port) (by omega) (fun x hx left g0 g1=>Z_Port (hR.2 x hx) g0 g1 hn) (fun m i left hi hi2=>by simp only [F_05_L1.eq_2,dltE hi,cond_true,getI_elE hi,Option.bind_some,wSE hi2]) (fun m left=>by simp only [F_05_L1.eq_2,dnlE,cond_false]) n 0 (left - (a.length:Int)) (by omega) (by omega) (by omega) (by omega) (fun j _ hj=>by omega)
  exact ⟨r,e,by omega,fun h=>⟨by omega,hs h⟩⟩
theorem Z_Design {n:Nat} {a:S_Design} {left:Int} (hR:R_Design a) (h0:0 ≤ left) (h1:left ≤ 1048576) (hn:1048577 ≤ n):∃ r,F_2b n a left = some r ∧ r ≤ left ∧ (0 ≤ r → SM_Design a):=by
 rw [F_2b]
 have ⟨r0,e0,l0,s0⟩:=Z_InstanceS (n:=n) (left:=left) hR.1 h0 h1 hn
 rw [e0,Option.bind_some]
 by_cases h_0:r0 < 0
 ·rw [decide_eq_true h_0]; exact ⟨-1,rfl,by omega,fun h=>by omega⟩
 rw [decide_eq_false h_0,cond_false]
 have ⟨r1,e1,l1,s1⟩:=Z_StringS (n:=n) (left:=r0) hR.2.1 (show (0:Int) ≤ r0 by omega) (by omega) hn
 rw [e1,Option.bind_some]
 by_cases h_1:r1 < 0
 ·rw [decide_eq_true h_1]; exact ⟨-1,rfl,by omega,fun h=>by omega⟩
 rw [decide_eq_false h_1,cond_false]
 have ⟨r2,e2,l2,s2⟩:=Z_PortS (n:=n) (left:=r1) hR.2.2 (show (0:Int) ≤ r1 by omega) (by omega) hn
 rw [e2,Option.bind_some]
 by_cases h_2:r2 < 0
 ·rw [decide_eq_true h_2]; exact ⟨-1,rfl,by omega,fun h=>by omega⟩
 rw [decide_eq_false h_2,cond_false]
 exact ⟨_,rfl,by omega,fun _=>⟨s0 (by omega),s1 (by omega),s2 (by omega)⟩⟩
theorem Z_Wire {n:Nat} {a:S_Wire} {left:Int} (hR:R_Wire a) (h0:0 ≤ left) (h1:left ≤ 1048576) (hn:1048577 ≤ n):∃ r,F_28 n a left = some r ∧ r ≤ left ∧ (0 ≤ r → SM_Wire a):=by
 rw [F_28]
 have ⟨r0,e0,l0,s0⟩:=Z_Int64S (n:=n) (left:=left) hR.1 h0 h1 hn
 rw [e0,Option.bind_some]
 by_cases h_0:r0 < 0
 ·rw [decide_eq_true h_0]; exact ⟨-1,rfl,by omega,fun h=>by omega⟩
 rw [decide_eq_false h_0,cond_false]
 have ⟨r1,e1,l1,s1⟩:=Z_Int64S (n:=n) (left:=r0) hR.2.1 (show (0:Int) ≤ r0 by omega) (by omega) hn
 rw [e1,Option.bind_some]
 by_cases h_1:r1 < 0
 ·rw [decide_eq_true h_1]; exact ⟨-1,rfl,by omega,fun h=>by omega⟩
 rw [decide_eq_false h_1,cond_false]
 have ⟨r2,e2,l2,s2⟩:=Z_Int64S (n:=n) (left:=r1) hR.2.2.1 (show (0:Int) ≤ r1 by omega) (by omega) hn
 rw [e2,Option.bind_some]
 by_cases h_2:r2 < 0
 ·rw [decide_eq_true h_2]; exact ⟨-1,rfl,by omega,fun h=>by omega⟩
 rw [decide_eq_false h_2,cond_false]
 have ⟨r3,e3,l3,s3⟩:=Z_Int64S (n:=n) (left:=r2) hR.2.2.2 (show (0:Int) ≤ r2 by omega) (by omega) hn
 rw [e3,Option.bind_some]
 by_cases h_3:r3 < 0
 ·rw [decide_eq_true h_3]; exact ⟨-1,rfl,by omega,fun h=>by omega⟩
 rw [decide_eq_false h_3,cond_false]
 exact ⟨_,rfl,by omega,fun _=>⟨s0 (by omega),s1 (by omega),s2 (by omega),s3 (by omega)⟩⟩
theorem Z_WireS {n:Nat} {a:List S_Wire} {left:Int} (hR:(fun xs=>xs.length ≤ 9223372036854775807 ∧ ∀ x ∈ xs,R_Wire x) a) (h0:0 ≤ left) (h1:left ≤ 1048576) (hn:1048577 ≤ n):∃ r,F_06 n a left = some r ∧ r ≤ left ∧ (0 ≤ r → (fun xs=>xs.length ≤ 1048576 ∧ ∀ x ∈ xs,SM_Wire x) a):=by
 have hl:=hR.1
 rw [F_06,wrap64 (by omega) (by omega)]
 by_cases h:left - (a.length:Int) < 0
 ·rw [decide_eq_true h]; exact ⟨-1,rfl,by omega,fun h=>by omega⟩
 ·rw [decide_eq_false h,cond_false]
  have ⟨r,e,hr,hs⟩:=szL (xs:=a) (L:=fun m l i=>F_06_L1 n a (fun i7 i8=>(some i7)) m l i) (f:=F_28 n) (SM:=SM_Wire) (by omega) (fun x hx left g0 g1=>Z_Wire (hR.2 x hx) g0 g1 hn) (fun m i left hi hi2=>by simp only [F_06_L1.eq_2,dltE hi,cond_true,getI_elE hi,Option.bind_some,wSE hi2]) (fun m left=>by simp only [F_06_L1.eq_2,dnlE,cond_false]) n 0 (left - (a.length:Int)) (by omega) (by omega) (by omega) (by omega) (fun j _ hj=>by omega)
  exact ⟨r,e,by omega,fun h=>⟨by omega,hs h⟩⟩
theorem Z_Block {n:Nat} {a:S_Block} {left:Int} (hR:R_Block a) (h0:0 ≤ left) (h1:left ≤ 1048576) (hn:1048577 ≤ n):∃ r,F_2c n a left = some r ∧ r ≤ left ∧ (0 ≤ r → SM_Block a):=by
 rw [F_2c]
 have ⟨r0,e0,l0,s0⟩:=Z_Library (n:=n) (left:=left) hR.1 h0 h1 hn
 rw [e0,Option.bind_some]
 by_cases h_0:r0 < 0
 ·rw [decide_eq_true h_0]; exact ⟨-1,rfl,by omega,fun h=>by omega⟩
 rw [decide_eq_false h_0,cond_false]
 have ⟨r1,e1,l1,s1⟩:=Z_Design (n:=n) (left:=r0) hR.2.1 (show (0:Int) ≤ r0 by omega) (by omega) hn
 rw [e1,Option.bind_some]
 by_cases h_1:r1 < 0
 ·rw [decide_eq_true h_1]; exact ⟨-1,rfl,by omega,fun h=>by omega⟩
 rw [decide_eq_false h_1,cond_false]
 have ⟨r2,e2,l2,s2⟩:=Z_WireS (n:=n) (left:=r1) hR.2.2 (show (0:Int) ≤ r1 by omega) (by omega) hn
 rw [e2,Option.bind_some]
 by_cases h_2:r2 < 0
 ·rw [decide_eq_true h_2]; exact ⟨-1,rfl,by omega,fun h=>by omega⟩
 rw [decide_eq_false h_2,cond_false]
 exact ⟨_,rfl,by omega,fun _=>⟨s0 (by omega),s1 (by omega),s2 (by omega)⟩⟩
theorem TL_Int64S {n:Nat} {a:List Int} {k:Int → List Int → Option (List Int)}:∀ (m:Nat) (i:Int) (l:List Int),F_8_L1 a k m i l = cpL a (some) k m i l
 | 0,_,_=>rfl
 | m + 1,i,l=>by simp only [F_8_L1.eq_2,cpL_s,Option.bind_some,TL_Int64S (n:=n) (a:=a) (k:=k) m]
theorem T_Int64S {n:Nat} {a:List Int} (h:(fun xs=>xs.length ≤ 1048576 ∧ ∀ x ∈ xs,(fun _=>True) x) a) (hn:1048577 ≤ n):F_8 n a = some a:=by
 rw [F_8,mkN_ok h.1 (by omega),Option.bind_some,TL_Int64S (n:=n)]
 exact cpL_id (fun x hx=>rfl) h.1 hn
theorem T_Pin {n:Nat} {a:S_Pin} (h:SM_Pin a) (hn:1048577 ≤ n):F_31 n a = some a:=by
 rfl
theorem TL_PinS {n:Nat} {a:List S_Pin} {k:Int → List S_Pin → Option (List S_Pin)}:∀ (m:Nat) (i:Int) (l:List S_Pin),F_1f_L1 n a k m i l = cpL a (F_31 n) k m i l
 | 0,_,_=>rfl
 | m + 1,i,l=>by simp only [F_1f_L1.eq_2,cpL_s,Option.bind_some,TL_PinS (n:=n) (a:=a) (k:=k) m]
theorem T_PinS {n:Nat} {a:List S_Pin} (h:(fun xs=>xs.length ≤ 1048576 ∧ ∀ x ∈ xs,SM_Pin x) a) (hn:1048577 ≤ n):F_1f n a = some a:=by
 rw [F_1f,mkN_ok h.1 (by omega),Option.bind_some,TL_PinS (n:=n)]
 exact cpL_id (fun x hx=>T_Pin (h.2 x hx) hn) h.1 hn
theorem T_Table {n:Nat} {a:S_Table} (h:SM_Table a) (hn:1048577 ≤ n):F_2q n a = some a:=by
 rw [F_2q]; simp only [T_Int64S (h.1) hn,T_Int64S (h.2.1) hn,T_Int64S (h.2.2) hn,Option.bind_some]
theorem TL_TableS {n:Nat} {a:List S_Table} {k:Int → List S_Table → Option (List S_Table)}:∀ (m:Nat) (i:Int) (l:List S_Table),F_0j_L1 n a k m i l = cpL a (F_2q n) k m i l
 | 0,_,_=>rfl
 | m + 1,i,l=>by simp only [F_0j_L1.eq_2,cpL_s,Option.bind_some,TL_TableS (n:=n) (a:=a) (k:=k) m]
theorem T_TableS {n:Nat} {a:List S_Table} (h:(fun xs=>xs.length ≤ 1048576 ∧ ∀ x ∈ xs,SM_Table x) a) (hn:1048577 ≤ n):F_0j n a = some a:=by
 rw [F_0j,mkN_ok h.1 (by omega),Option.bind_some,TL_TableS (n:=n)]
 exact cpL_id (fun x hx=>T_Table (h.2 x hx) hn) h.1 hn
theorem T_Arc {n:Nat} {a:S_Arc} (h:SM_Arc a) (hn:1048577 ≤ n):F_2r n a = some a:=by
 rw [F_2r]; simp only [T_TableS (h.2.2.2.2.1) hn,T_TableS (h.2.2.2.2.2) hn,Option.bind_some]
theorem TL_ArcS {n:Nat} {a:List S_Arc} {k:Int → List S_Arc → Option (List S_Arc)}:∀ (m:Nat) (i:Int) (l:List S_Arc),F_1g_L1 n a k m i l = cpL a (F_2r n) k m i l
 | 0,_,_=>rfl
 | m + 1,i,l=>by simp only [F_1g_L1.eq_2,cpL_s,Option.bind_some,TL_ArcS (n:=n) (a:=a) (k:=k) m]
theorem T_ArcS {n:Nat} {a:List S_Arc} (h:(fun xs=>xs.length ≤ 1048576 ∧ ∀ x ∈ xs,SM_Arc x) a) (hn:1048577 ≤ n):F_1g n a = some a:=by
 rw [F_1g,mkN_ok h.1 (by omega),Option.bind_some,TL_ArcS (n:=n)]
 exact cpL_id (fun x hx=>T_Arc (h.2 x hx) hn) h.1 hn
theorem T_Cell {n:Nat} {a:S_Cell} (h:SM_Cell a) (hn:1048577 ≤ n):F_2s n a = some a:=by
 rw [F_2s]; simp only [T_PinS (h.2.2.1) hn,T_ArcS (h.2.2.2.1) hn,T_Int64S (h.2.2.2.2.1) hn,Option.bind_some]
theorem TL_CellS {n:Nat} {a:List S_Cell} {k:Int → List S_Cell → Option (List S_Cell)}:∀ (m:Nat) (i:Int) (l:List S_Cell),F_1h_L1 n a k m i l = cpL a (F_2s n) k m i l
 | 0,_,_=>rfl
 | m + 1,i,l=>by simp only [F_1h_L1.eq_2,cpL_s,Option.bind_some,TL_CellS (n:=n) (a:=a) (k:=k) m]
theorem T_CellS {n:Nat} {a:List S_Cell} (h:(fun xs=>xs.length ≤ 1048576 ∧ ∀ x ∈ xs,SM_Cell x) a) (hn:1048577 ≤ n):F_1h n a = some a:=by
 rw [F_1h,mkN_ok h.1 (by omega),Option.bind_some,TL_CellS (n:=n)]
 exact cpL_id (fun x hx=>T_Cell (h.2 x hx) hn) h.1 hn
theorem T_Library {n:Nat} {a:S_Library} (h:SM_Library a) (hn:1048577 ≤ n):F_32 n a = some a:=by
 rw [F_32]; simp only [T_CellS (h) hn,Option.bind_some]
theorem T_Instance {n:Nat} {a:S_Instance} (h:SM_Instance a) (hn:1048577 ≤ n):F_2t n a = some a:=by
 rw [F_2t]; simp only [T_Int64S (h.2.2) hn,Option.bind_some]
theorem TL_InstanceS {n:Nat} {a:List S_Instance} {k:Int → List S_Instance → Option (List S_Instance)}:∀ (m:Nat) (i:Int) (l:List S_Instance),F_1i_L1 n a k m i l = cpL a (F_2t n) k m i l
 | 0,_,_=>rfl
 | m + 1,i,l=>by simp only [F_1i_L1.eq_2,cpL_s,Option.bind_some,TL_InstanceS (n:=n) (a:=a) (k:=k) m]
theorem T_InstanceS {n:Nat} {a:List S_Instance} (h:(fun xs=>xs.length ≤ 1048576 ∧ ∀ x ∈ xs,SM_Instance x) a) (hn:1048577 ≤ n):F_1i n a = some a:=by
 rw [F_1i,mkN_ok h.1 (by omega),Option.bind_some,TL_InstanceS (n:=n)]
 exact cpL_id (fun x hx=>T_Instance (h.2 x hx) hn) h.1 hn
theorem TL_StringS {n:Nat} {a:List ByteArray} {k:Int → List ByteArray → Option (List ByteArray)}:∀ (m:Nat) (i:Int) (l:List ByteArray),F_1j_L1 a k m i l = cpL a (some) k m i l
 | 0,_,_=>rfl
 | m + 1,i,l=>by simp only [F_1j_L1.eq_2,cpL_s,Option.bind_some,TL_StringS (n:=n) (a:=a) (k:=k) m]
theorem T_StringS {n:Nat} {a:List ByteArray} (h:(fun xs=>xs.length ≤ 1048576 ∧ ∀ x ∈ xs,(fun s=>s.size ≤ 1048576) x) a) (hn:1048577 ≤ n):F_1j n a = some a:=by
 rw [F_1j,mkN_ok h.1 (by omega),Option.bind_some,TL_StringS (n:=n)]
 exact cpL_id (fun x hx=>rfl) h.1 hn
theorem T_Port {n:Nat} {a:S_Port} (h:SM_Port a) (hn:1048577 ≤ n):F_33 n a = some a:=by
 rfl
theorem TL_PortS {n:Nat} {a:List S_Port} {k:Int → List S_Port → Option (List S_Port)}:∀ (m:Nat) (i:Int) (l:List S_Port),F_1k_L1 n a k m i l = cpL a (F_33 n) k m i l
 | 0,_,_=>rfl
 | m + 1,i,l=>by simp only [F_1k_L1.eq_2,cpL_s,Option.bind_some,TL_PortS (n:=n) (a:=a) (k:=k) m]
theorem T_PortS {n:Nat} {a:List S_Port} (h:(fun xs=>xs.length ≤ 1048576 ∧ ∀ x ∈ xs,SM_Port x) a) (hn:1048577 ≤ n):F_1k n a = some a:=by
 rw [F_1k,mkN_ok h.1 (by omega),Option.bind_some,TL_PortS (n:=n)]
 exact cpL_id (fun x hx=>T_Port (h.2 x hx) hn) h.1 hn
theorem T_Design {n:Nat} {a:S_Design} (h:SM_Design a) (hn:1048577 ≤ n):F_34 n a = some a:=by
 rw [F_34]; simp only [T_InstanceS (h.1) hn,T_StringS (h.2.1) hn,T_PortS (h.2.2) hn,Option.bind_some]
theorem T_Wire {n:Nat} {a:S_Wire} (h:SM_Wire a) (hn:1048577 ≤ n):F_2u n a = some a:=by
 rw [F_2u]; simp only [T_Int64S (h.1) hn,T_Int64S (h.2.1) hn,T_Int64S (h.2.2.1) hn,T_Int64S (h.2.2.2) hn,Option.bind_some]
theorem TL_WireS {n:Nat} {a:List S_Wire} {k:Int → List S_Wire → Option (List S_Wire)}:∀ (m:Nat) (i:Int) (l:List S_Wire),F_1l_L1 n a k m i l = cpL a (F_2u n) k m i l
 | 0,_,_=>rfl
 | m + 1,i,l=>by simp only [F_1l_L1.eq_2,cpL_s,Option.bind_some,TL_WireS (n:=n) (a:=a) (k:=k) m]
theorem T_WireS {n:Nat} {a:List S_Wire} (h:(fun xs=>xs.length ≤ 1048576 ∧ ∀ x ∈ xs,SM_Wire x) a) (hn:1048577 ≤ n):F_1l n a = some a:=by
 rw [F_1l,mkN_ok h.1 (by omega),Option.bind_some,TL_WireS (n:=n)]
 exact cpL_id (fun x hx=>T_Wire (h.2 x hx) hn) h.1 hn
theorem T_Block {n:Nat} {a:S_Block} (h:SM_Block a) (hn:1048577 ≤ n):F_1w n a = some a:=by
 rw [F_1w]; simp only [T_Library (h.1) hn,T_Design (h.2.1) hn,T_WireS (h.2.2) hn,Option.bind_some]
theorem EL_Int64S {n:Nat} {a b:List Int} {k:Int → Option Bool}:∀ (m:Nat) (i:Int),F_9_L1 a b k m i = eqL a b ((fun x y=>some (x == y))) (some false) k m i
 | 0,_=>rfl
 | m + 1,i=>by simp only [F_9_L1.eq_2,eqL_s,Option.bind_some,bne,EL_Int64S (n:=n) (a:=a) (b:=b) (k:=k) m]
theorem E_Int64S {n:Nat} {a:List Int} (h:(fun xs=>xs.length ≤ 1048576 ∧ ∀ x ∈ xs,(fun _=>True) x) a) (hn:1048577 ≤ n):F_9 n a a = some true:=by
 rw [F_9,EL_Int64S (n:=n)]
 have:=eqL_same (f:=(fun x y=>some (x == y))) (no:=some false) (k:=fun (i:Int)=>some true) (fun x hx=>by simp) h.1 n 0 (by omega) (by omega)
 simpa using this
theorem E_Pin {n:Nat} {a:S_Pin} (h:SM_Pin a) (hn:1048577 ≤ n):F_2d n a a = some true:=by
 simp [F_2d]
theorem EL_PinS {n:Nat} {a b:List S_Pin} {k:Int → Option Bool}:∀ (m:Nat) (i:Int),F_1m_L1 n a b k m i = eqL a b (F_2d n) (some false) k m i
 | 0,_=>rfl
 | m + 1,i=>by simp only [F_1m_L1.eq_2,eqL_s,Option.bind_some,bne,EL_PinS (n:=n) (a:=a) (b:=b) (k:=k) m]
theorem E_PinS {n:Nat} {a:List S_Pin} (h:(fun xs=>xs.length ≤ 1048576 ∧ ∀ x ∈ xs,SM_Pin x) a) (hn:1048577 ≤ n):F_1m n a a = some true:=by
 rw [F_1m,EL_PinS (n:=n)]
 have:=eqL_same (f:=F_2d n) (no:=some false) (k:=fun (i:Int)=>some true) (fun x hx=>E_Pin (h.2 x hx) hn) h.1 n 0 (by omega) (by omega)
 simpa using this
theorem E_Table {n:Nat} {a:S_Table} (h:SM_Table a) (hn:1048577 ≤ n):F_2e n a a = some true:=by
 simp [F_2e,E_Int64S (h.1) hn,E_Int64S (h.2.1) hn,E_Int64S (h.2.2) hn]
theorem EL_TableS {n:Nat} {a b:List S_Table} {k:Int → Option Bool}:∀ (m:Nat) (i:Int),F_0k_L1 n a b k m i = eqL a b (F_2e n) (some false) k m i
 | 0,_=>rfl
 | m + 1,i=>by simp only [F_0k_L1.eq_2,eqL_s,Option.bind_some,bne,EL_TableS (n:=n) (a:=a) (b:=b) (k:=k) m]
theorem E_TableS {n:Nat} {a:List S_Table} (h:(fun xs=>xs.length ≤ 1048576 ∧ ∀ x ∈ xs,SM_Table x) a) (hn:1048577 ≤ n):F_0k n a a = some true:=by
 rw [F_0k,EL_TableS (n:=n)]
 have:=eqL_same (f:=F_2e n) (no:=some false) (k:=fun (i:Int)=>some true) (fun x hx=>E_Table (h.2 x hx) hn) h.1 n 0 (by omega) (by omega)
 simpa using this
theorem E_Arc {n:Nat} {a:S_Arc} (h:SM_Arc a) (hn:1048577 ≤ n):F_2f n a a = some true:=by
 simp [F_2f,E_TableS (h.2.2.2.2.1) hn,E_TableS (h.2.2.2.2.2) hn]
theorem EL_ArcS {n:Nat} {a b:List S_Arc} {k:Int → Option Bool}:∀ (m:Nat) (i:Int),F_1n_L1 n a b k m i = eqL a b (F_2f n) (some false) k m i
 | 0,_=>rfl
 | m + 1,i=>by simp only [F_1n_L1.eq_2,eqL_s,Option.bind_some,bne,EL_ArcS (n:=n) (a:=a) (b:=b) (k:=k) m]
theorem E_ArcS {n:Nat} {a:List S_Arc} (h:(fun xs=>xs.length ≤ 1048576 ∧ ∀ x ∈ xs,SM_Arc x) a) (hn:1048577 ≤ n):F_1n n a a = some true:=by
 rw [F_1n,EL_ArcS (n:=n)]
 have:=eqL_same (f:=F_2f n) (no:=some false) (k:=fun (i:Int)=>some true) (fun x hx=>E_Arc (h.2 x hx) hn) h.1 n 0 (by omega) (by omega)
 simpa using this
theorem E_Cell {n:Nat} {a:S_Cell} (h:SM_Cell a) (hn:1048577 ≤ n):F_2g n a a = some true:=by
 simp [F_2g,E_PinS (h.2.2.1) hn,E_ArcS (h.2.2.2.1) hn,E_Int64S (h.2.2.2.2.1) hn]
theorem EL_CellS {n:Nat} {a b:List S_Cell} {k:Int → Option Bool}:∀ (m:Nat) (i:Int),F_1o_L1 n a b k m i = eqL a b (F_2g n) (some false) k m i
 | 0,_=>rfl
 | m + 1,i=>by simp only [F_1o_L1.eq_2,eqL_s,Option.bind_some,bne,EL_CellS (n:=n) (a:=a) (b:=b) (k:=k) m]
theorem E_CellS {n:Nat} {a:List S_Cell} (h:(fun xs=>xs.length ≤ 1048576 ∧ ∀ x ∈ xs,SM_Cell x) a) (hn:1048577 ≤ n):F_1o n a a = some true:=by
 rw [F_1o,EL_CellS (n:=n)]
 have:=eqL_same (f:=F_2g n) (no:=some false) (k:=fun (i:Int)=>some true) (fun x hx=>E_Cell (h.2 x hx) hn) h.1 n 0 (by omega) (by omega)
 simpa using this
theorem E_Library {n:Nat} {a:S_Library} (h:SM_Library a) (hn:1048577 ≤ n):F_35 n a a = some true:=by
 simp [F_35,E_CellS (h) hn]
theorem E_Instance {n:Nat} {a:S_Instance} (h:SM_Instance a) (hn:1048577 ≤ n):F_2h n a a = some true:=by
 simp [F_2h,E_Int64S (h.2.2) hn]
theorem EL_InstanceS {n:Nat} {a b:List S_Instance} {k:Int → Option Bool}:∀ (m:Nat) (i:Int),F_1p_L1 n a b k m i = eqL a b (F_2h n) (some false) k m i
 | 0,_=>rfl
 | m + 1,i=>by simp only [F_1p_L1.eq_2,eqL_s,Option.bind_some,bne,EL_InstanceS (n:=n) (a:=a) (b:=b) (k:=k) m]
theorem E_InstanceS {n:Nat} {a:List S_Instance} (h:(fun xs=>xs.length ≤ 1048576 ∧ ∀ x ∈ xs,SM_Instance x) a) (hn:1048577 ≤ n):F_1p n a a = some true:=by
 rw [F_1p,EL_InstanceS (n:=n)]
 have:=eqL_same (f:=F_2h n) (no:=some false) (k:=fun (i:Int)=>some true) (fun x hx=>E_Instance (h.2 x hx) hn) h.1 n 0 (by omega) (by omega)
 simpa using this
theorem EL_StringS {n:Nat} {a b:List ByteArray} {k:Int → Option Bool}:∀ (m:Nat) (i:Int),F_1q_L1 a b k m i = eqL a b ((fun x y=>some (x.toList == y.toList))) (some false) k m i
 | 0,_=>rfl
 | m + 1,i=>by simp only [F_1q_L1.eq_2,eqL_s,Option.bind_some,bne,EL_StringS (n:=n) (a:=a) (b:=b) (k:=k) m]
theorem E_StringS {n:Nat} {a:List ByteArray} (h:(fun xs=>xs.length ≤ 1048576 ∧ ∀ x ∈ xs,(fun s=>s.size ≤ 1048576) x) a) (hn:1048577 ≤ n):F_1q n a a = some true:=by
 rw [F_1q,EL_StringS (n:=n)]
 have:=eqL_same (f:=(fun x y=>some (x.toList == y.toList))) (no:=some false) (k:=fun (i:Int)=>some true) (fun x hx=>by simp) h.1 n 0 (by omega) (by omega)
 simpa using this
theorem E_Port {n:Nat} {a:S_Port} (h:SM_Port a) (hn:1048577 ≤ n):F_2i n a a = some true:=by
 simp [F_2i]
theorem EL_PortS {n:Nat} {a b:List S_Port} {k:Int → Option Bool}:∀ (m:Nat) (i:Int),F_1r_L1 n a b k m i = eqL a b (F_2i n) (some false) k m i
 | 0,_=>rfl
 | m + 1,i=>by simp only [F_1r_L1.eq_2,eqL_s,Option.bind_some,bne,EL_PortS (n:=n) (a:=a) (b:=b) (k:=k) m]
theorem E_PortS {n:Nat} {a:List S_Port} (h:(fun xs=>xs.length ≤ 1048576 ∧ ∀ x ∈ xs,SM_Port x) a) (hn:1048577 ≤ n):F_1r n a a = some true:=by
 rw [F_1r,EL_PortS (n:=n)]
 have:=eqL_same (f:=F_2i n) (no:=some false) (k:=fun (i:Int)=>some true) (fun x hx=>E_Port (h.2 x hx) hn) h.1 n 0 (by omega) (by omega)
 simpa using this
theorem E_Design {n:Nat} {a:S_Design} (h:SM_Design a) (hn:1048577 ≤ n):F_36 n a a = some true:=by
 simp [F_36,E_InstanceS (h.1) hn,E_StringS (h.2.1) hn,E_PortS (h.2.2) hn]
theorem E_Wire {n:Nat} {a:S_Wire} (h:SM_Wire a) (hn:1048577 ≤ n):F_2j n a a = some true:=by
 simp [F_2j,E_Int64S (h.1) hn,E_Int64S (h.2.1) hn,E_Int64S (h.2.2.1) hn,E_Int64S (h.2.2.2) hn]
theorem EL_WireS {n:Nat} {a b:List S_Wire} {k:Int → Option Bool}:∀ (m:Nat) (i:Int),F_1s_L1 n a b k m i = eqL a b (F_2j n) (some false) k m i
 | 0,_=>rfl
 | m + 1,i=>by simp only [F_1s_L1.eq_2,eqL_s,Option.bind_some,bne,EL_WireS (n:=n) (a:=a) (b:=b) (k:=k) m]
theorem E_WireS {n:Nat} {a:List S_Wire} (h:(fun xs=>xs.length ≤ 1048576 ∧ ∀ x ∈ xs,SM_Wire x) a) (hn:1048577 ≤ n):F_1s n a a = some true:=by
 rw [F_1s,EL_WireS (n:=n)]
 have:=eqL_same (f:=F_2j n) (no:=some false) (k:=fun (i:Int)=>some true) (fun x hx=>E_Wire (h.2 x hx) hn) h.1 n 0 (by omega) (by omega)
 simpa using this
theorem E_Block {n:Nat} {a:S_Block} (h:SM_Block a) (hn:1048577 ≤ n):F_37 n a a = some true:=by
 simp [F_37,E_Library (h.1) hn,E_Design (h.2.1) hn,E_WireS (h.2.2) hn]
theorem M_Int64S {n:Nat} {a:List Int} {k:Int} (h:a.length ≤ 1048576) (h0:0 ≤ k) (hk:k ≤ 1152921504606846976) (hn:1048577 ≤ n):∃ r,F_0d n a k = some r ∧ k ≤ r.1 ∧ r.1 ≤ k + 67108864 ∧ F_0f n r.2 k = some r.1:=by
 have ⟨b,h1,h2,h3⟩:=markL (LM:=fun m k i l=>F_0d_L1 (fun i8 i9 l10=>(some (i8,l10))) m k i l) 1 (fun k x=>(k)) (by omega) (fun m k i l hi hi2 k0 k1=>by
  rw [show k + ((1:Nat):Int) = k + 1 by omega]
  simp only [F_0d_L1.eq_2,dltE hi,cond_true,getI_elE hi,getI_setE hi,Option.bind_some,Int.toNat_natCast,List.set_set,wSE hi2,wrap64 (x:=k + 1) (by omega) (by omega)]) (fun m k l=>by simp only [F_0d_L1.eq_2,dnlE,cond_false]) h h0 hk n 0 a (by omega) (by omega) rfl (fun j _ hj=>by omega)
 refine ⟨(k + ((1:Nat):Int) * a.length,b),by rw [F_0d]; simpa using h1,by dsimp only; omega,by dsimp only; omega,?_⟩
 have:=heldL (LH:=fun m k i=>F_0f_L1 b (fun i5 i6=>(some i5)) m k i) 1 (fun k (x:Int)=>(k)) (by omega) (fun m k i hi x hx hi2 k0 k1=>by
  rw [show k + ((1:Nat):Int) = k + 1 by omega]
  simp only [F_0f_L1.eq_2,dltE hi,cond_true,getI_elE hi,hx,Option.bind_some,bne_self_eq_false,cond_false,wSE hi2,wrap64 (x:=k + 1) (by omega) (by omega)]) (fun m k=>by simp only [F_0f_L1.eq_2,dnlE,cond_false]) (by omega) h0 hk h3 n 0 (by omega) (by omega)
 rw [h2] at this
 rw [F_0f]; simpa using this
theorem MT {n:Nat} {k:Int} (h0:0 ≤ k) (hk:k ≤ 4611686018427387904) (hn:1048577 ≤ n):∃ t,F_x n k = some t:=by
 rw [F_x]
 by_cases h:k ≤ 0
 ·rw [decide_eq_true h]; exact ⟨_,rfl⟩
 rw [decide_eq_false h,cond_false]
 have:∀ (j m:Nat) (k:Int) (t:ByteArray),0 ≤ k → k < (10:Int) ^ j → k ≤ 4611686018427387904 → j < m → t.size + j ≤ 1000 → ∃ r,F_x_L1 (fun i5 t6=>(Option.bind (catS ((ByteArray.mk #[109])) t6) fun t7=>(some t7))) m k t = some r:=by
  intro j
  induction j with
  | zero =>
   intro m k t k0 k1 k2 hm ht
   obtain ⟨m,rfl⟩:∃ q,m = q + 1:=⟨m - 1,by omega⟩
   rw [F_x_L1.eq_2,decide_eq_false (by simp at k1; omega),cond_false,catS_ok (by show 1 + t.size ≤ _; omega)]
   exact ⟨_,rfl⟩
  | succ j ih =>
   intro m k t k0 k1 k2 hm ht
   obtain ⟨m,rfl⟩:∃ q,m = q + 1:=⟨m - 1,by omega⟩
   rw [F_x_L1.eq_2]
   by_cases h:k > 0
   ·rw [decide_eq_true h,cond_true,catS_ok (by rw [strB_size]; simp; omega),Option.bind_some]
    have e:wrap .i64 (Int.tdiv k 10) = k / 10:=by rw [Int.tdiv_eq_ediv_of_nonneg k0]; exact wrap64 (by omega) (by omega)
    rw [e]
    refine ih m (k / 10) _ (by omega) ?_ (by omega) (by omega) (by rw [ByteArray.size_append,strB_size]; simp; omega)
    rw [Int.pow_succ] at k1; omega
   ·rw [decide_eq_false h,cond_false,catS_ok (by show 1 + t.size ≤ _; omega)]
    exact ⟨_,rfl⟩
 exact this 19 n k _ h0 (by omega) hk (by omega) (by decide)
theorem Rd_2:Rd prog 2 (cInt .i64) (inK .i64):=Rd.int underlying2
theorem Rd_9:Rd prog 9 cStr (fun s=>s.size ≤ maxLen):=Rd.str underlying9
theorem Rd_4:Rd prog 4 cBool (fun _=>True):=Rd.bool underlying4
theorem Rd_215:Rd prog 215 C_Pin R_Pin:=Rd.map (Rd.struct (fs:=[_,_,_,_]) underlying215 (by kernel_rfl) (RdF.cons Rd_9 rfl (by kernel_rfl) (RdF.cons Rd_2 rfl (by kernel_rfl) (RdF.cons Rd_2 rfl (by kernel_rfl) (RdF.one Rd_4 rfl (by kernel_rfl)))))) (fun (x:S_Pin)=>(x.Name,x.Dir,x.Cap,x.Clock)) (fun p=>(⟨p.1,p.2.1,p.2.2.1,p.2.2.2⟩:S_Pin)) (fun _=>rfl)
theorem Rd_165:Rd prog 165 (cSl C_Pin) (fun xs=>xs.length ≤ 9223372036854775807 ∧ ∀ x ∈ xs,R_Pin x):=Rd.slice underlying165 (by kernel_rfl) rfl Rd_215
theorem Rd_33:Rd prog 33 (cSl (cInt .i64)) (fun xs=>xs.length ≤ 9223372036854775807 ∧ ∀ x ∈ xs,(inK .i64) x):=Rd.slice underlying33 (by kernel_rfl) rfl Rd_2
theorem Rd_242:Rd prog 242 C_Table R_Table:=Rd.map (Rd.struct (fs:=[_,_,_]) underlying242 (by kernel_rfl) (RdF.cons Rd_33 rfl (by kernel_rfl) (RdF.cons Rd_33 rfl (by kernel_rfl) (RdF.one Rd_33 rfl (by kernel_rfl))))) (fun (x:S_Table)=>(x.Slews,x.Loads,x.Values)) (fun p=>(⟨p.1,p.2.1,p.2.2⟩:S_Table)) (fun _=>rfl)
theorem Rd_217:Rd prog 217 (cSl C_Table) (fun xs=>xs.length ≤ 9223372036854775807 ∧ ∀ x ∈ xs,R_Table x):=Rd.slice underlying217 (by kernel_rfl) rfl Rd_242
theorem Rd_219:Rd prog 219 C_Arc R_Arc:=Rd.map (Rd.struct (fs:=[_,_,_,_,_,_]) underlying219 (by kernel_rfl) (RdF.cons Rd_2 rfl (by kernel_rfl) (RdF.cons Rd_2 rfl (by kernel_rfl) (RdF.cons Rd_2 rfl (by kernel_rfl) (RdF.cons Rd_2 rfl (by kernel_rfl) (RdF.cons Rd_217 rfl (by kernel_rfl) (RdF.one Rd_217 rfl (by kernel_rfl)))))))) (fun (x:S_Arc)=>(x.Kind,x.From,x.To,x.Sense,x.Delay,x.Slew)) (fun p=>(⟨p.1,p.2.1,p.2.2.1,p.2.2.2.1,p.2.2.2.2.1,p.2.2.2.2.2⟩:S_Arc)) (fun _=>rfl)
theorem Rd_166:Rd prog 166 (cSl C_Arc) (fun xs=>xs.length ≤ 9223372036854775807 ∧ ∀ x ∈ xs,R_Arc x):=Rd.slice underlying166 (by kernel_rfl) rfl Rd_219
theorem Rd_168:Rd prog 168 C_Cell R_Cell:=Rd.map (Rd.struct (fs:=[_,_,_,_,_,_,_]) underlying168 (by kernel_rfl) (RdF.cons Rd_9 rfl (by kernel_rfl) (RdF.cons Rd_2 rfl (by kernel_rfl) (RdF.cons Rd_165 rfl (by kernel_rfl) (RdF.cons Rd_166 rfl (by kernel_rfl) (RdF.cons Rd_33 rfl (by kernel_rfl) (RdF.cons Rd_2 rfl (by kernel_rfl) (RdF.one Rd_2 rfl (by kernel_rfl))))))))) (fun (x:S_Cell)=>(x.Name,x.Kind,x.Pins,x.Arcs,x.Truth,x.Leak,x.Energy)) (fun p=>(⟨p.1,p.2.1,p.2.2.1,p.2.2.2.1,p.2.2.2.2.1,p.2.2.2.2.2.1,p.2.2.2.2.2.2⟩:S_Cell)) (fun _=>rfl)
theorem Rd_22:Rd prog 22 (cSl C_Cell) (fun xs=>xs.length ≤ 9223372036854775807 ∧ ∀ x ∈ xs,R_Cell x):=Rd.slice underlying22 (by kernel_rfl) rfl Rd_168
theorem Rd_24:Rd prog 24 C_Library R_Library:=Rd.map (Rd.struct (fs:=[_]) underlying24 (by kernel_rfl) (RdF.one Rd_22 rfl (by kernel_rfl))) (fun (x:S_Library)=>x.Cells) (fun p=>(⟨p⟩:S_Library)) (fun _=>rfl)
theorem Rd_170:Rd prog 170 C_Instance R_Instance:=Rd.map (Rd.struct (fs:=[_,_,_]) underlying170 (by kernel_rfl) (RdF.cons Rd_9 rfl (by kernel_rfl) (RdF.cons Rd_2 rfl (by kernel_rfl) (RdF.one Rd_33 rfl (by kernel_rfl))))) (fun (x:S_Instance)=>(x.Name,x.Cell,x.Nets)) (fun p=>(⟨p.1,p.2.1,p.2.2⟩:S_Instance)) (fun _=>rfl)
theorem Rd_25:Rd prog 25 (cSl C_Instance) (fun xs=>xs.length ≤ 9223372036854775807 ∧ ∀ x ∈ xs,R_Instance x):=Rd.slice underlying25 (by kernel_rfl) rfl Rd_170
theorem Rd_26:Rd prog 26 (cSl cStr) (fun xs=>xs.length ≤ 9223372036854775807 ∧ ∀ x ∈ xs,(fun s=>s.size ≤ maxLen) x):=Rd.slice underlying26 (by kernel_rfl) rfl Rd_9
theorem Rd_172:Rd prog 172 C_Port R_Port:=Rd.map (Rd.struct (fs:=[_,_,_]) underlying172 (by kernel_rfl) (RdF.cons Rd_9 rfl (by kernel_rfl) (RdF.cons Rd_2 rfl (by kernel_rfl) (RdF.one Rd_2 rfl (by kernel_rfl))))) (fun (x:S_Port)=>(x.Name,x.Dir,x.Net)) (fun p=>(⟨p.1,p.2.1,p.2.2⟩:S_Port)) (fun _=>rfl)
theorem Rd_27:Rd prog 27 (cSl C_Port) (fun xs=>xs.length ≤ 9223372036854775807 ∧ ∀ x ∈ xs,R_Port x):=Rd.slice underlying27 (by kernel_rfl) rfl Rd_172
theorem Rd_29:Rd prog 29 C_Design R_Design:=Rd.map (Rd.struct (fs:=[_,_,_]) underlying29 (by kernel_rfl) (RdF.cons Rd_25 rfl (by kernel_rfl) (RdF.cons Rd_26 rfl (by kernel_rfl) (RdF.one Rd_27 rfl (by kernel_rfl))))) (fun (x:S_Design)=>(x.Instances,x.Nets,x.Ports)) (fun p=>(⟨p.1,p.2.1,p.2.2⟩:S_Design)) (fun _=>rfl)
theorem Rd_126:Rd prog 126 C_Wire R_Wire:=Rd.map (Rd.struct (fs:=[_,_,_,_]) underlying126 (by kernel_rfl) (RdF.cons Rd_33 rfl (by kernel_rfl) (RdF.cons Rd_33 rfl (by kernel_rfl) (RdF.cons Rd_33 rfl (by kernel_rfl) (RdF.one Rd_33 rfl (by kernel_rfl)))))) (fun (x:S_Wire)=>(x.Parent,x.Res,x.Cap,x.Sink)) (fun p=>(⟨p.1,p.2.1,p.2.2.1,p.2.2.2⟩:S_Wire)) (fun _=>rfl)
theorem Rd_30:Rd prog 30 (cSl C_Wire) (fun xs=>xs.length ≤ 9223372036854775807 ∧ ∀ x ∈ xs,R_Wire x):=Rd.slice underlying30 (by kernel_rfl) rfl Rd_126
theorem Rd_32:Rd prog 32 C_Block R_Block:=Rd.map (Rd.struct (fs:=[_,_,_]) underlying32 (by kernel_rfl) (RdF.cons Rd_24 rfl (by kernel_rfl) (RdF.cons Rd_29 rfl (by kernel_rfl) (RdF.one Rd_30 rfl (by kernel_rfl))))) (fun (x:S_Block)=>(x.Library,x.Design,x.Wires)) (fun p=>(⟨p.1,p.2.1,p.2.2⟩:S_Block)) (fun _=>rfl)
end Go.Proofs.YtpfgoednlfjebaaGreatDoor
