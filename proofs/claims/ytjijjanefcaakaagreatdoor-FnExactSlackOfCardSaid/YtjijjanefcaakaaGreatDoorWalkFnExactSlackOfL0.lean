/- The walks: every function that FnExactSlackOf reaches computes the plain function that is typed beside it; no condition. -/
import Derived.Test.YtjijjanefcaakaaGreatDoorWalkFnExactSlackOfB0
set_option linter.all false
set_option maxRecDepth 20000
set_option maxHeartbeats 40000000
namespace Go.Proofs.YtjijjanefcaakaaGreatDoor
open Go Go.RowKit Go.Eng
def F_laws_szInt64S (n:Nat) (a0:List Int) (a1:Int):Option Int:=(bif decide (IntKind.wrap .i64 (a1 - ((a0.length:Int))) < 0) then (some (-1)) else (some (IntKind.wrap .i64 (a1 - ((a0.length:Int))))))
theorem W_laws_szInt64S {n:Nat} {B:List Int} {C:Int} {r:Int} {w:World} {D:Value} {H:Nat} (hF:F_laws_szInt64S n B C = some r) (hH:H ≤ w.heap.size) (E:slRep (cInt .i64) w (Iv 0 H) B D) :
    Calls Tryz.prog 177 [D,.int .i64 C].toArray w (Ret fun u F => u = .int .i64 r∧Ext w F):=by
  refine calls_ofD Tryz.func177 rfl Tryz.ntmps177 ?_;have A:Ext w w:=Ext.refl w;unfold F_laws_szInt64S at hF;refine Rc 9 (Yl rfl (yle rfl Tryz.underlying75 (E.oh hH A)) (Ro 11 (Wc rfl hF ?_ ?_)))
  · intro hF;refine Rc 7 ?_;obtain rfl:=szs hF;exact Ne rfl rfl ⟨_,rfl,rfl,A⟩
  · intro hF;refine Rc 9 ?_;obtain rfl:=szs hF;exact Ne rfl rfl ⟨_,rfl,rfl,A⟩
def F_laws_szPin (n:Nat) (a0:S_Pin) (a1:Int):Option Int:=(bif decide (IntKind.wrap .i64 (a1 - ((a0.Name.size:Int))) < 0) then (some (-1)) else (some (IntKind.wrap .i64 (a1 - ((a0.Name.size:Int))))))
theorem W_laws_szPin {n:Nat} {A:S_Pin} {D:Int} {r:Int} {w:World} (hF:F_laws_szPin n A D = some r) :
    Calls Tryz.prog 240 [.agg #[.string A.Name,.int .i64 A.Dir,.int .i64 A.Cap,.bool A.Clock],.int .i64 D].toArray w (Ret fun u C => u = .int .i64 r∧Ext w C):=by
  refine calls_ofD Tryz.func240 rfl Tryz.ntmps240 ?_;have G:Ext w w:=Ext.refl w;unfold F_laws_szPin at hF;refine Rc 2 (Ef rfl (eff_box rfl rfl) ?_);rintro _ C ⟨F,rfl,I,J,H,B⟩;have B:Box C F [.string A.Name,.int .i64 A.Dir,.int .i64 A.Cap,.bool A.Clock] 323:=B;obtain ⟨E,K⟩:=Et G H;refine Ro 6 (Yl rfl (yfa rfl fo_323_0) (Yl rfl (ylb rfl ag_9 B rfl) (Yl rfl (yld_lens rfl Tryz.underlying9 rfl) (Ro 11 (Wc rfl hF ?_ ?_)))))
  · intro hF;refine Rc 7 ?_;obtain rfl:=szs hF;exact Ne rfl rfl ⟨_,rfl,rfl,E⟩
  · intro hF;refine Rc 9 ?_;obtain rfl:=szs hF;exact Ne rfl rfl ⟨_,rfl,rfl,E⟩
def F_laws_szPinS_L1 (n:Nat) (a0:List S_Pin) (k0:Int→Int→Option Int):Nat→Int→Int→Option Int
  | 0, _, _=>none
  | m + 1, i5, i6=>(bif decide (i6 < (a0.length:Int)) then (Option.bind (getI a0 i6) fun x7=>(Option.bind (F_laws_szPin n x7 i5) fun r15=>(bif decide (r15 < 0) then (some (-1)) else (F_laws_szPinS_L1 n a0 k0 m r15 (IntKind.wrap .i64 (i6 + 1)))))) else (k0 i5 i6))
def F_laws_szPinS (n:Nat) (a0:List S_Pin) (a1:Int):Option Int:=(bif decide (IntKind.wrap .i64 (a1 - ((a0.length:Int))) < 0) then (some (-1)) else (F_laws_szPinS_L1 n a0 (fun i5 i6=>(some i5)) n (IntKind.wrap .i64 (a1 - ((a0.length:Int)))) 0))
theorem W_laws_szPinS {n:Nat} {D:List S_Pin} {G:Int} {r:Int} {w:World} {K:Value} {H:Nat} (hF:F_laws_szPinS n D G = some r) (hH:H ≤ w.heap.size) (I:slRep C_Pin w (Iv 0 H) D K) :
    Calls Tryz.prog 217 [K,.int .i64 G].toArray w (Ret fun u S => u = .int .i64 r∧Ext w S):=by
  refine calls_ofD Tryz.func217 rfl Tryz.ntmps217 ?_;have J:Ext w w:=Ext.refl w;unfold F_laws_szPinS at hF;refine Rc 9 (Yl rfl (yle rfl Tryz.underlying261 (I.oh hH J)) (Ro 11 (Wc rfl hF ?_ ?_)))
  · intro hF;refine Rc 7 ?_;obtain rfl:=szs hF;exact Ne rfl rfl ⟨_,rfl,rfl,J⟩
  · intro hF;refine Rc 9 ?_;refine WC.loopD (fun C a wl => ∃ (A:Int) (B:Int),Kn 27 [(0,K),(1,.int .i64 A),(5,.int .i64 B)] a∧Ext w wl∧w.heap.size ≤ wl.heap.size∧F_laws_szPinS_L1 n D (fun A B => (some A)) C A B = some r) n ?_ ?_
    · intro a hK;exact ⟨(IntKind.wrap .i64 (G - ((D.length:Int)))),0,hK.sub rfl,J,Nat.le_refl _,hF⟩
    · rintro C a b ⟨A,B,hK,E,W,hF⟩;revert a;change WC _ _ _ _ _ _
      cases C with
      | zero => exact nos hF
      | succ C =>
        rw [F_laws_szPinS_L1.eq_2] at hF;refine Rc 5 (Yl rfl (yle rfl Tryz.underlying261 (I.oh hH E)) (Ro 3 (Wc rfl hF ?_ ?_)))
        · intro hF;refine Rc 8 ?_;obtain ⟨F,Q,hF⟩:=bsome hF;refine Ye rfl (yix rfl Tryz.underlying261 cn_323 (I.oh hH E) Q) ?_;rintro _ ⟨T,X,Y,rfl,U,N,M⟩;obtain rfl:=C_Pin_open N;refine Yl rfl (yln (us:=[.string F.Name,.int .i64 F.Dir,.int .i64 F.Cap,.bool F.Clock]) rfl ag_323 M cn_323) (Ro 1 ?_);obtain ⟨R,O,hF⟩:=bsome hF;refine Ef rfl (eca rfl gf_240 (W_laws_szPin O :)) ?_;rintro _ Z ⟨rfl,P⟩;obtain ⟨L,V⟩:=Et E P;refine Ro 9 (Wc rfl hF ?_ ?_)
          · intro hF;refine Rc 11 ?_;obtain rfl:=szs hF;exact Ne rfl rfl ⟨_,rfl,rfl,L⟩
          · intro hF;refine Rc 9 ?_;intro a hK;exact ⟨C,Nat.le.refl,R,(IntKind.wrap .i64 (B + 1)),hK.sub rfl,L,(by omega),hF⟩
        · intro hF;refine Rc 12 ?_;obtain rfl:=szs hF;exact Ne rfl rfl ⟨_,rfl,rfl,E⟩
def F_laws_szTable (n:Nat) (a0:S_Table) (a1:Int):Option Int:=(Option.bind (F_laws_szInt64S n a0.Slews a1) fun r14=>(bif decide (r14 < 0) then (some (-1)) else (Option.bind (F_laws_szInt64S n a0.Loads r14) fun r20=>(bif decide (r20 < 0) then (some (-1)) else (Option.bind (F_laws_szInt64S n a0.Values r20) fun r26=>(bif decide (r26 < 0) then (some (-1)) else (some r26)))))))
theorem W_laws_szTable {n:Nat} {B:S_Table} {I:Int} {r:Int} {w:World} {E:Value} {F:Value} {G:Value} {H:Nat} (hF:F_laws_szTable n B I = some r) (hH:H ≤ w.heap.size) (O:slRep (cInt .i64) w (Iv 0 H) B.Slews E) (P:slRep (cInt .i64) w (Iv 0 H) B.Loads F) (Q:slRep (cInt .i64) w (Iv 0 H) B.Values G) :
    Calls Tryz.prog 277 [.agg #[E,F,G],.int .i64 I].toArray w (Ret fun u X => u = .int .i64 r∧Ext w X):=by
  refine calls_ofD Tryz.func277 rfl Tryz.ntmps277 ?_;have R:Ext w w:=Ext.refl w;unfold F_laws_szTable at hF;refine Rc 2 (Ef rfl (eff_box rfl rfl) ?_);rintro _ Y ⟨N,rfl,Z,a,S,A⟩;have A:Box Y N [E,F,G] 358:=A;obtain ⟨J,b⟩:=Et R S;refine Ro 5 (Yl rfl (yfa rfl fo_358_0) (Yl rfl (ylb rfl ag_75 A rfl) (Ro 1 ?_)));obtain ⟨f,T,hF⟩:=bsome hF;refine Ef rfl (eca rfl gf_177 (W_laws_szInt64S T (by omega) (O.oh hH J) :)) ?_;rintro _ i ⟨rfl,L⟩;obtain ⟨C,c⟩:=Et J L;have A:=A.ext L;refine Ro 10 (Wc rfl hF ?_ ?_)
  · intro hF;refine Rc 7 ?_;obtain rfl:=szs hF;exact Ne rfl rfl ⟨_,rfl,rfl,C⟩
  · intro hF;refine Rc 4 (Yl rfl (yfa rfl fo_358_1) (Yl rfl (ylb rfl ag_75 A rfl) (Ro 1 ?_)));obtain ⟨g,U,hF⟩:=bsome hF;refine Ef rfl (eca rfl gf_177 (W_laws_szInt64S U (by omega) (P.oh hH C) :)) ?_;rintro _ j ⟨rfl,M⟩;obtain ⟨D,d⟩:=Et C M;have A:=A.ext M;refine Ro 10 (Wc rfl hF ?_ ?_)
    · intro hF;refine Rc 7 ?_;obtain rfl:=szs hF;exact Ne rfl rfl ⟨_,rfl,rfl,D⟩
    · intro hF;refine Rc 4 (Yl rfl (yfa rfl fo_358_2) (Yl rfl (ylb rfl ag_75 A rfl) (Ro 1 ?_)));obtain ⟨h,V,hF⟩:=bsome hF;refine Ef rfl (eca rfl gf_177 (W_laws_szInt64S V (by omega) (Q.oh hH D) :)) ?_;rintro _ k ⟨rfl,W⟩;obtain ⟨K,e⟩:=Et D W;refine Ro 10 (Wc rfl hF ?_ ?_)
      · intro hF;refine Rc 7 ?_;obtain rfl:=szs hF;exact Ne rfl rfl ⟨_,rfl,rfl,K⟩
      · intro hF;refine Rc 9 ?_;obtain rfl:=szs hF;exact Ne rfl rfl ⟨_,rfl,rfl,K⟩
def F_laws_szTableS_L1 (n:Nat) (a0:List S_Table) (k0:Int→Int→Option Int):Nat→Int→Int→Option Int
  | 0, _, _=>none
  | m + 1, i5, i6=>(bif decide (i6 < (a0.length:Int)) then (Option.bind (getI a0 i6) fun x7=>(Option.bind (F_laws_szTable n x7 i5) fun r21=>(bif decide (r21 < 0) then (some (-1)) else (F_laws_szTableS_L1 n a0 k0 m r21 (IntKind.wrap .i64 (i6 + 1)))))) else (k0 i5 i6))
def F_laws_szTableS (n:Nat) (a0:List S_Table) (a1:Int):Option Int:=(bif decide (IntKind.wrap .i64 (a1 - ((a0.length:Int))) < 0) then (some (-1)) else (F_laws_szTableS_L1 n a0 (fun i5 i6=>(some i5)) n (IntKind.wrap .i64 (a1 - ((a0.length:Int)))) 0))
theorem W_laws_szTableS {n:Nat} {D:List S_Table} {F:Int} {r:Int} {w:World} {J:Value} {H:Nat} (hF:F_laws_szTableS n D F = some r) (hH:H ≤ w.heap.size) (G:slRep C_Table w (Iv 0 H) D J) :
    Calls Tryz.prog 262 [J,.int .i64 F].toArray w (Ret fun u X => u = .int .i64 r∧Ext w X):=by
  refine calls_ofD Tryz.func262 rfl Tryz.ntmps262 ?_;have I:Ext w w:=Ext.refl w;unfold F_laws_szTableS at hF;refine Rc 9 (Yl rfl (yle rfl Tryz.underlying325 (G.oh hH I)) (Ro 11 (Wc rfl hF ?_ ?_)))
  · intro hF;refine Rc 7 ?_;obtain rfl:=szs hF;exact Ne rfl rfl ⟨_,rfl,rfl,I⟩
  · intro hF;refine Rc 9 ?_;refine WC.loopD (fun C a wl => ∃ (A:Int) (B:Int),Kn 27 [(0,J),(1,.int .i64 A),(5,.int .i64 B)] a∧Ext w wl∧w.heap.size ≤ wl.heap.size∧F_laws_szTableS_L1 n D (fun A B => (some A)) C A B = some r) n ?_ ?_
    · intro a hK;exact ⟨(IntKind.wrap .i64 (F - ((D.length:Int)))),0,hK.sub rfl,I,Nat.le_refl _,hF⟩
    · rintro C a g ⟨A,B,hK,E,c,hF⟩;revert a;change WC _ _ _ _ _ _
      cases C with
      | zero => exact nos hF
      | succ C =>
        rw [F_laws_szTableS_L1.eq_2] at hF;refine Rc 5 (Yl rfl (yle rfl Tryz.underlying325 (G.oh hH E)) (Ro 3 (Wc rfl hF ?_ ?_)))
        · intro hF;refine Rc 8 ?_;obtain ⟨h,S,hF⟩:=bsome hF;refine Ye rfl (yix rfl Tryz.underlying325 cn_358 (G.oh hH E) S) ?_;rintro _ ⟨Y,d,e,rfl,Z,M,L⟩;obtain ⟨U,V,W,rfl,O,P,Q⟩:=C_Table_open M;refine Yl rfl (yln (us:=[U,V,W]) rfl ag_358 L cn_358) (Ro 1 ?_);obtain ⟨T,N,hF⟩:=bsome hF;refine Ef rfl (eca rfl gf_277 (W_laws_szTable N (by omega) O P Q :)) ?_;rintro _ f ⟨rfl,R⟩;obtain ⟨K,b⟩:=Et E R;refine Ro 9 (Wc rfl hF ?_ ?_)
          · intro hF;refine Rc 11 ?_;obtain rfl:=szs hF;exact Ne rfl rfl ⟨_,rfl,rfl,K⟩
          · intro hF;refine Rc 9 ?_;intro a hK;exact ⟨C,Nat.le.refl,T,(IntKind.wrap .i64 (B + 1)),hK.sub rfl,K,(by omega),hF⟩
        · intro hF;refine Rc 12 ?_;obtain rfl:=szs hF;exact Ne rfl rfl ⟨_,rfl,rfl,E⟩
def F_laws_szArc (n:Nat) (a0:S_Arc) (a1:Int):Option Int:=(Option.bind (F_laws_szTableS n a0.Delay a1) fun r12=>(bif decide (r12 < 0) then (some (-1)) else (Option.bind (F_laws_szTableS n a0.Slew r12) fun r18=>(bif decide (r18 < 0) then (some (-1)) else (some r18)))))
theorem W_laws_szArc {n:Nat} {A:S_Arc} {F:Int} {r:Int} {w:World} {D:Value} {E:Value} {H:Nat} (hF:F_laws_szArc n A F = some r) (hH:H ≤ w.heap.size) (L:slRep C_Table w (Iv 0 H) A.Delay D) (M:slRep C_Table w (Iv 0 H) A.Slew E) :
    Calls Tryz.prog 241 [.agg #[.int .i64 A.Kind,.int .i64 A.From,.int .i64 A.To,.int .i64 A.Sense,D,E],.int .i64 F].toArray w (Ret fun u S => u = .int .i64 r∧Ext w S):=by
  refine calls_ofD Tryz.func241 rfl Tryz.ntmps241 ?_;have N:Ext w w:=Ext.refl w;unfold F_laws_szArc at hF;refine Rc 2 (Ef rfl (eff_box rfl rfl) ?_);rintro _ T ⟨K,rfl,U,V,O,B⟩;have B:Box T K [.int .i64 A.Kind,.int .i64 A.From,.int .i64 A.To,.int .i64 A.Sense,D,E] 327:=B;obtain ⟨G,W⟩:=Et N O;refine Ro 5 (Yl rfl (yfa rfl fo_327_4) (Yl rfl (ylb rfl ag_325 B rfl) (Ro 1 ?_)));obtain ⟨Z,P,hF⟩:=bsome hF;refine Ef rfl (eca rfl gf_262 (W_laws_szTableS P (by omega) (L.oh hH G) :)) ?_;rintro _ b ⟨rfl,J⟩;obtain ⟨C,X⟩:=Et G J;have B:=B.ext J;refine Ro 10 (Wc rfl hF ?_ ?_)
  · intro hF;refine Rc 7 ?_;obtain rfl:=szs hF;exact Ne rfl rfl ⟨_,rfl,rfl,C⟩
  · intro hF;refine Rc 4 (Yl rfl (yfa rfl fo_327_5) (Yl rfl (ylb rfl ag_325 B rfl) (Ro 1 ?_)));obtain ⟨a,Q,hF⟩:=bsome hF;refine Ef rfl (eca rfl gf_262 (W_laws_szTableS Q (by omega) (M.oh hH C) :)) ?_;rintro _ c ⟨rfl,R⟩;obtain ⟨I,Y⟩:=Et C R;refine Ro 10 (Wc rfl hF ?_ ?_)
    · intro hF;refine Rc 7 ?_;obtain rfl:=szs hF;exact Ne rfl rfl ⟨_,rfl,rfl,I⟩
    · intro hF;refine Rc 9 ?_;obtain rfl:=szs hF;exact Ne rfl rfl ⟨_,rfl,rfl,I⟩
def F_laws_szArcS_L1 (n:Nat) (a0:List S_Arc) (k0:Int→Int→Option Int):Nat→Int→Int→Option Int
  | 0, _, _=>none
  | m + 1, i5, i6=>(bif decide (i6 < (a0.length:Int)) then (Option.bind (getI a0 i6) fun x7=>(Option.bind (F_laws_szArc n x7 i5) fun r19=>(bif decide (r19 < 0) then (some (-1)) else (F_laws_szArcS_L1 n a0 k0 m r19 (IntKind.wrap .i64 (i6 + 1)))))) else (k0 i5 i6))
def F_laws_szArcS (n:Nat) (a0:List S_Arc) (a1:Int):Option Int:=(bif decide (IntKind.wrap .i64 (a1 - ((a0.length:Int))) < 0) then (some (-1)) else (F_laws_szArcS_L1 n a0 (fun i5 i6=>(some i5)) n (IntKind.wrap .i64 (a1 - ((a0.length:Int)))) 0))
theorem W_laws_szArcS {n:Nat} {D:List S_Arc} {G:Int} {r:Int} {w:World} {K:Value} {H:Nat} (hF:F_laws_szArcS n D G = some r) (hH:H ≤ w.heap.size) (I:slRep C_Arc w (Iv 0 H) D K) :
    Calls Tryz.prog 218 [K,.int .i64 G].toArray w (Ret fun u W => u = .int .i64 r∧Ext w W):=by
  refine calls_ofD Tryz.func218 rfl Tryz.ntmps218 ?_;have J:Ext w w:=Ext.refl w;unfold F_laws_szArcS at hF;refine Rc 9 (Yl rfl (yle rfl Tryz.underlying262 (I.oh hH J)) (Ro 11 (Wc rfl hF ?_ ?_)))
  · intro hF;refine Rc 7 ?_;obtain rfl:=szs hF;exact Ne rfl rfl ⟨_,rfl,rfl,J⟩
  · intro hF;refine Rc 9 ?_;refine WC.loopD (fun C a wl => ∃ (A:Int) (B:Int),Kn 27 [(0,K),(1,.int .i64 A),(5,.int .i64 B)] a∧Ext w wl∧w.heap.size ≤ wl.heap.size∧F_laws_szArcS_L1 n D (fun A B => (some A)) C A B = some r) n ?_ ?_
    · intro a hK;exact ⟨(IntKind.wrap .i64 (G - ((D.length:Int)))),0,hK.sub rfl,J,Nat.le_refl _,hF⟩
    · rintro C a f ⟨A,B,hK,E,b,hF⟩;revert a;change WC _ _ _ _ _ _
      cases C with
      | zero => exact nos hF
      | succ C =>
        rw [F_laws_szArcS_L1.eq_2] at hF;refine Rc 5 (Yl rfl (yle rfl Tryz.underlying262 (I.oh hH E)) (Ro 3 (Wc rfl hF ?_ ?_)))
        · intro hF;refine Rc 8 ?_;obtain ⟨F,S,hF⟩:=bsome hF;refine Ye rfl (yix rfl Tryz.underlying262 cn_327 (I.oh hH E) S) ?_;rintro _ ⟨X,c,d,rfl,Y,N,M⟩;obtain ⟨U,V,rfl,P,Q⟩:=C_Arc_open N;refine Yl rfl (yln (us:=[.int .i64 F.Kind,.int .i64 F.From,.int .i64 F.To,.int .i64 F.Sense,U,V]) rfl ag_327 M cn_327) (Ro 1 ?_);obtain ⟨T,O,hF⟩:=bsome hF;refine Ef rfl (eca rfl gf_241 (W_laws_szArc O (by omega) P Q :)) ?_;rintro _ e ⟨rfl,R⟩;obtain ⟨L,Z⟩:=Et E R;refine Ro 9 (Wc rfl hF ?_ ?_)
          · intro hF;refine Rc 11 ?_;obtain rfl:=szs hF;exact Ne rfl rfl ⟨_,rfl,rfl,L⟩
          · intro hF;refine Rc 9 ?_;intro a hK;exact ⟨C,Nat.le.refl,T,(IntKind.wrap .i64 (B + 1)),hK.sub rfl,L,(by omega),hF⟩
        · intro hF;refine Rc 12 ?_;obtain rfl:=szs hF;exact Ne rfl rfl ⟨_,rfl,rfl,E⟩
def F_laws_szCell (n:Nat) (a0:S_Cell) (a1:Int):Option Int:=(bif decide (IntKind.wrap .i64 (a1 - ((a0.Name.size:Int))) < 0) then (some (-1)) else (Option.bind (F_laws_szPinS n a0.Pins (IntKind.wrap .i64 (a1 - ((a0.Name.size:Int))))) fun r14=>(bif decide (r14 < 0) then (some (-1)) else (Option.bind (F_laws_szArcS n a0.Arcs r14) fun r20=>(bif decide (r20 < 0) then (some (-1)) else (Option.bind (F_laws_szInt64S n a0.Truth r20) fun r26=>(bif decide (r26 < 0) then (some (-1)) else (some r26))))))))
theorem W_laws_szCell {n:Nat} {A:S_Cell} {J:Int} {r:Int} {w:World} {F:Value} {G:Value} {I:Value} {H:Nat} (hF:F_laws_szCell n A J = some r) (hH:H ≤ w.heap.size) (O:slRep C_Pin w (Iv 0 H) A.Pins F) (P:slRep C_Arc w (Iv 0 H) A.Arcs G) (Q:slRep (cInt .i64) w (Iv 0 H) A.Truth I) :
    Calls Tryz.prog 174 [.agg #[.string A.Name,.int .i64 A.Kind,F,G,I,.int .i64 A.Leak,.int .i64 A.Energy],.int .i64 J].toArray w (Ret fun u X => u = .int .i64 r∧Ext w X):=by
  refine calls_ofD Tryz.func174 rfl Tryz.ntmps174 ?_;have R:Ext w w:=Ext.refl w;unfold F_laws_szCell at hF;refine Rc 2 (Ef rfl (eff_box rfl rfl) ?_);rintro _ Y ⟨N,rfl,Z,a,S,B⟩;have B:Box Y N [.string A.Name,.int .i64 A.Kind,F,G,I,.int .i64 A.Leak,.int .i64 A.Energy] 264:=B;obtain ⟨C,b⟩:=Et R S;refine Ro 6 (Yl rfl (yfa rfl fo_264_0) (Yl rfl (ylb rfl ag_9 B rfl) (Yl rfl (yld_lens rfl Tryz.underlying9 rfl) (Ro 11 (Wc rfl hF ?_ ?_)))))
  · intro hF;refine Rc 7 ?_;obtain rfl:=szs hF;exact Ne rfl rfl ⟨_,rfl,rfl,C⟩
  · intro hF;refine Rc 4 (Yl rfl (yfa rfl fo_264_2) (Yl rfl (ylb rfl ag_261 B rfl) (Ro 1 ?_)));obtain ⟨f,T,hF⟩:=bsome hF;refine Ef rfl (eca rfl gf_217 (W_laws_szPinS T (by omega) (O.oh hH C) :)) ?_;rintro _ i ⟨rfl,L⟩;obtain ⟨D,c⟩:=Et C L;have B:=B.ext L;refine Ro 10 (Wc rfl hF ?_ ?_)
    · intro hF;refine Rc 7 ?_;obtain rfl:=szs hF;exact Ne rfl rfl ⟨_,rfl,rfl,D⟩
    · intro hF;refine Rc 4 (Yl rfl (yfa rfl fo_264_3) (Yl rfl (ylb rfl ag_262 B rfl) (Ro 1 ?_)));obtain ⟨g,U,hF⟩:=bsome hF;refine Ef rfl (eca rfl gf_218 (W_laws_szArcS U (by omega) (P.oh hH D) :)) ?_;rintro _ j ⟨rfl,M⟩;obtain ⟨E,d⟩:=Et D M;have B:=B.ext M;refine Ro 10 (Wc rfl hF ?_ ?_)
      · intro hF;refine Rc 7 ?_;obtain rfl:=szs hF;exact Ne rfl rfl ⟨_,rfl,rfl,E⟩
      · intro hF;refine Rc 4 (Yl rfl (yfa rfl fo_264_4) (Yl rfl (ylb rfl ag_75 B rfl) (Ro 1 ?_)));obtain ⟨h,V,hF⟩:=bsome hF;refine Ef rfl (eca rfl gf_177 (W_laws_szInt64S V (by omega) (Q.oh hH E) :)) ?_;rintro _ k ⟨rfl,W⟩;obtain ⟨K,e⟩:=Et E W;refine Ro 10 (Wc rfl hF ?_ ?_)
        · intro hF;refine Rc 7 ?_;obtain rfl:=szs hF;exact Ne rfl rfl ⟨_,rfl,rfl,K⟩
        · intro hF;refine Rc 9 ?_;obtain rfl:=szs hF;exact Ne rfl rfl ⟨_,rfl,rfl,K⟩
def F_laws_szCellS_L1 (n:Nat) (a0:List S_Cell) (k0:Int→Int→Option Int):Nat→Int→Int→Option Int
  | 0, _, _=>none
  | m + 1, i5, i6=>(bif decide (i6 < (a0.length:Int)) then (Option.bind (getI a0 i6) fun x7=>(Option.bind (F_laws_szCell n x7 i5) fun r21=>(bif decide (r21 < 0) then (some (-1)) else (F_laws_szCellS_L1 n a0 k0 m r21 (IntKind.wrap .i64 (i6 + 1)))))) else (k0 i5 i6))
def F_laws_szCellS (n:Nat) (a0:List S_Cell) (a1:Int):Option Int:=(bif decide (IntKind.wrap .i64 (a1 - ((a0.length:Int))) < 0) then (some (-1)) else (F_laws_szCellS_L1 n a0 (fun i5 i6=>(some i5)) n (IntKind.wrap .i64 (a1 - ((a0.length:Int)))) 0))
theorem W_laws_szCellS {n:Nat} {D:List S_Cell} {G:Int} {r:Int} {w:World} {K:Value} {H:Nat} (hF:F_laws_szCellS n D G = some r) (hH:H ≤ w.heap.size) (I:slRep C_Cell w (Iv 0 H) D K) :
    Calls Tryz.prog 118 [K,.int .i64 G].toArray w (Ret fun u Y => u = .int .i64 r∧Ext w Y):=by
  refine calls_ofD Tryz.func118 rfl Tryz.ntmps118 ?_;have J:Ext w w:=Ext.refl w;unfold F_laws_szCellS at hF;refine Rc 9 (Yl rfl (yle rfl Tryz.underlying22 (I.oh hH J)) (Ro 11 (Wc rfl hF ?_ ?_)))
  · intro hF;refine Rc 7 ?_;obtain rfl:=szs hF;exact Ne rfl rfl ⟨_,rfl,rfl,J⟩
  · intro hF;refine Rc 9 ?_;refine WC.loopD (fun C a wl => ∃ (A:Int) (B:Int),Kn 27 [(0,K),(1,.int .i64 A),(5,.int .i64 B)] a∧Ext w wl∧w.heap.size ≤ wl.heap.size∧F_laws_szCellS_L1 n D (fun A B => (some A)) C A B = some r) n ?_ ?_
    · intro a hK;exact ⟨(IntKind.wrap .i64 (G - ((D.length:Int)))),0,hK.sub rfl,J,Nat.le_refl _,hF⟩
    · rintro C a h ⟨A,B,hK,E,d,hF⟩;revert a;change WC _ _ _ _ _ _
      cases C with
      | zero => exact nos hF
      | succ C =>
        rw [F_laws_szCellS_L1.eq_2] at hF;refine Rc 5 (Yl rfl (yle rfl Tryz.underlying22 (I.oh hH E)) (Ro 3 (Wc rfl hF ?_ ?_)))
        · intro hF;refine Rc 8 ?_;obtain ⟨F,T,hF⟩:=bsome hF;refine Ye rfl (yix rfl Tryz.underlying22 cn_264 (I.oh hH E) T) ?_;rintro _ ⟨Z,e,f,rfl,b,N,M⟩;obtain ⟨V,W,X,rfl,P,Q,R⟩:=C_Cell_open N;refine Yl rfl (yln (us:=[.string F.Name,.int .i64 F.Kind,V,W,X,.int .i64 F.Leak,.int .i64 F.Energy]) rfl ag_264 M cn_264) (Ro 1 ?_);obtain ⟨U,O,hF⟩:=bsome hF;refine Ef rfl (eca rfl gf_174 (W_laws_szCell O (by omega) P Q R :)) ?_;rintro _ g ⟨rfl,S⟩;obtain ⟨L,c⟩:=Et E S;refine Ro 9 (Wc rfl hF ?_ ?_)
          · intro hF;refine Rc 11 ?_;obtain rfl:=szs hF;exact Ne rfl rfl ⟨_,rfl,rfl,L⟩
          · intro hF;refine Rc 9 ?_;intro a hK;exact ⟨C,Nat.le.refl,U,(IntKind.wrap .i64 (B + 1)),hK.sub rfl,L,(by omega),hF⟩
        · intro hF;refine Rc 12 ?_;obtain rfl:=szs hF;exact Ne rfl rfl ⟨_,rfl,rfl,E⟩
def F_laws_szLibrary (n:Nat) (a0:S_Library) (a1:Int):Option Int:=(Option.bind (F_laws_szCellS n a0.Cells a1) fun r10=>(bif decide (r10 < 0) then (some (-1)) else (some r10)))
theorem W_laws_szLibrary {n:Nat} {C:S_Library} {D:Int} {r:Int} {w:World} {B:Value} {H:Nat} (hF:F_laws_szLibrary n C D = some r) (hH:H ≤ w.heap.size) (I:slRep C_Cell w (Iv 0 H) C.Cells B) :
    Calls Tryz.prog 55 [.agg #[B],.int .i64 D].toArray w (Ret fun u N => u = .int .i64 r∧Ext w N):=by
  refine calls_ofD Tryz.func55 rfl Tryz.ntmps55 ?_;have J:Ext w w:=Ext.refl w;unfold F_laws_szLibrary at hF;refine Rc 2 (Ef rfl (eff_box rfl rfl) ?_);rintro _ O ⟨G,rfl,P,Q,K,A⟩;have A:Box O G [B] 24:=A;obtain ⟨F,S⟩:=Et J K;refine Ro 5 (Yl rfl (yfa rfl fo_24_0) (Yl rfl (ylb rfl ag_22 A rfl) (Ro 1 ?_)));obtain ⟨T,L,hF⟩:=bsome hF;refine Ef rfl (eca rfl gf_118 (W_laws_szCellS L (by omega) (I.oh hH F) :)) ?_;rintro _ U ⟨rfl,M⟩;obtain ⟨E,R⟩:=Et F M;refine Ro 10 (Wc rfl hF ?_ ?_)
  · intro hF;refine Rc 7 ?_;obtain rfl:=szs hF;exact Ne rfl rfl ⟨_,rfl,rfl,E⟩
  · intro hF;refine Rc 9 ?_;obtain rfl:=szs hF;exact Ne rfl rfl ⟨_,rfl,rfl,E⟩
def F_laws_szInstance (n:Nat) (a0:S_Instance) (a1:Int):Option Int:=(bif decide (IntKind.wrap .i64 (a1 - ((a0.Name.size:Int))) < 0) then (some (-1)) else (Option.bind (F_laws_szInt64S n a0.Nets (IntKind.wrap .i64 (a1 - ((a0.Name.size:Int))))) fun r10=>(bif decide (r10 < 0) then (some (-1)) else (some r10))))
theorem W_laws_szInstance {n:Nat} {A:S_Instance} {E:Int} {r:Int} {w:World} {D:Value} {H:Nat} (hF:F_laws_szInstance n A E = some r) (hH:H ≤ w.heap.size) (I:slRep (cInt .i64) w (Iv 0 H) A.Nets D) :
    Calls Tryz.prog 175 [.agg #[.string A.Name,.int .i64 A.Cell,D],.int .i64 E].toArray w (Ret fun u N => u = .int .i64 r∧Ext w N):=by
  refine calls_ofD Tryz.func175 rfl Tryz.ntmps175 ?_;have J:Ext w w:=Ext.refl w;unfold F_laws_szInstance at hF;refine Rc 2 (Ef rfl (eff_box rfl rfl) ?_);rintro _ O ⟨G,rfl,P,Q,K,B⟩;have B:Box O G [.string A.Name,.int .i64 A.Cell,D] 266:=B;obtain ⟨C,S⟩:=Et J K;refine Ro 6 (Yl rfl (yfa rfl fo_266_0) (Yl rfl (ylb rfl ag_9 B rfl) (Yl rfl (yld_lens rfl Tryz.underlying9 rfl) (Ro 11 (Wc rfl hF ?_ ?_)))))
  · intro hF;refine Rc 7 ?_;obtain rfl:=szs hF;exact Ne rfl rfl ⟨_,rfl,rfl,C⟩
  · intro hF;refine Rc 4 (Yl rfl (yfa rfl fo_266_2) (Yl rfl (ylb rfl ag_75 B rfl) (Ro 1 ?_)));obtain ⟨T,L,hF⟩:=bsome hF;refine Ef rfl (eca rfl gf_177 (W_laws_szInt64S L (by omega) (I.oh hH C) :)) ?_;rintro _ U ⟨rfl,M⟩;obtain ⟨F,R⟩:=Et C M;refine Ro 10 (Wc rfl hF ?_ ?_)
    · intro hF;refine Rc 7 ?_;obtain rfl:=szs hF;exact Ne rfl rfl ⟨_,rfl,rfl,F⟩
    · intro hF;refine Rc 9 ?_;obtain rfl:=szs hF;exact Ne rfl rfl ⟨_,rfl,rfl,F⟩
def F_laws_szInstanceS_L1 (n:Nat) (a0:List S_Instance) (k0:Int→Int→Option Int):Nat→Int→Int→Option Int
  | 0, _, _=>none
  | m + 1, i5, i6=>(bif decide (i6 < (a0.length:Int)) then (Option.bind (getI a0 i6) fun x7=>(Option.bind (F_laws_szInstance n x7 i5) fun r17=>(bif decide (r17 < 0) then (some (-1)) else (F_laws_szInstanceS_L1 n a0 k0 m r17 (IntKind.wrap .i64 (i6 + 1)))))) else (k0 i5 i6))
def F_laws_szInstanceS (n:Nat) (a0:List S_Instance) (a1:Int):Option Int:=(bif decide (IntKind.wrap .i64 (a1 - ((a0.length:Int))) < 0) then (some (-1)) else (F_laws_szInstanceS_L1 n a0 (fun i5 i6=>(some i5)) n (IntKind.wrap .i64 (a1 - ((a0.length:Int)))) 0))
theorem W_laws_szInstanceS {n:Nat} {D:List S_Instance} {F:Int} {r:Int} {w:World} {J:Value} {H:Nat} (hF:F_laws_szInstanceS n D F = some r) (hH:H ≤ w.heap.size) (G:slRep C_Instance w (Iv 0 H) D J) :
    Calls Tryz.prog 119 [J,.int .i64 F].toArray w (Ret fun u U => u = .int .i64 r∧Ext w U):=by
  refine calls_ofD Tryz.func119 rfl Tryz.ntmps119 ?_;have I:Ext w w:=Ext.refl w;unfold F_laws_szInstanceS at hF;refine Rc 9 (Yl rfl (yle rfl Tryz.underlying25 (G.oh hH I)) (Ro 11 (Wc rfl hF ?_ ?_)))
  · intro hF;refine Rc 7 ?_;obtain rfl:=szs hF;exact Ne rfl rfl ⟨_,rfl,rfl,I⟩
  · intro hF;refine Rc 9 ?_;refine WC.loopD (fun C a wl => ∃ (A:Int) (B:Int),Kn 27 [(0,J),(1,.int .i64 A),(5,.int .i64 B)] a∧Ext w wl∧w.heap.size ≤ wl.heap.size∧F_laws_szInstanceS_L1 n D (fun A B => (some A)) C A B = some r) n ?_ ?_
    · intro a hK;exact ⟨(IntKind.wrap .i64 (F - ((D.length:Int)))),0,hK.sub rfl,I,Nat.le_refl _,hF⟩
    · rintro C a d ⟨A,B,hK,E,Y,hF⟩;revert a;change WC _ _ _ _ _ _
      cases C with
      | zero => exact nos hF
      | succ C =>
        rw [F_laws_szInstanceS_L1.eq_2] at hF;refine Rc 5 (Yl rfl (yle rfl Tryz.underlying25 (G.oh hH E)) (Ro 3 (Wc rfl hF ?_ ?_)))
        · intro hF;refine Rc 8 ?_;obtain ⟨L,R,hF⟩:=bsome hF;refine Ye rfl (yix rfl Tryz.underlying25 cn_266 (G.oh hH E) R) ?_;rintro _ ⟨V,Z,b,rfl,W,N,M⟩;obtain ⟨T,rfl,P⟩:=C_Instance_open N;refine Yl rfl (yln (us:=[.string L.Name,.int .i64 L.Cell,T]) rfl ag_266 M cn_266) (Ro 1 ?_);obtain ⟨S,O,hF⟩:=bsome hF;refine Ef rfl (eca rfl gf_175 (W_laws_szInstance O (by omega) P :)) ?_;rintro _ c ⟨rfl,Q⟩;obtain ⟨K,X⟩:=Et E Q;refine Ro 9 (Wc rfl hF ?_ ?_)
          · intro hF;refine Rc 11 ?_;obtain rfl:=szs hF;exact Ne rfl rfl ⟨_,rfl,rfl,K⟩
          · intro hF;refine Rc 9 ?_;intro a hK;exact ⟨C,Nat.le.refl,S,(IntKind.wrap .i64 (B + 1)),hK.sub rfl,K,(by omega),hF⟩
        · intro hF;refine Rc 12 ?_;obtain rfl:=szs hF;exact Ne rfl rfl ⟨_,rfl,rfl,E⟩
def F_laws_szStringS_L1 (a0:List ByteArray) (k0:Int→Int→Option Int):Nat→Int→Int→Option Int
  | 0, _, _=>none
  | m + 1, i5, i6=>(bif decide (i6 < (a0.length:Int)) then (Option.bind (getI a0 i6) fun x7=>(bif decide (IntKind.wrap .i64 (i5 - ((x7.size:Int))) < 0) then (some (-1)) else (F_laws_szStringS_L1 a0 k0 m (IntKind.wrap .i64 (i5 - ((x7.size:Int)))) (IntKind.wrap .i64 (i6 + 1))))) else (k0 i5 i6))
def F_laws_szStringS (n:Nat) (a0:List ByteArray) (a1:Int):Option Int:=(bif decide (IntKind.wrap .i64 (a1 - ((a0.length:Int))) < 0) then (some (-1)) else (F_laws_szStringS_L1 a0 (fun i5 i6=>(some i5)) n (IntKind.wrap .i64 (a1 - ((a0.length:Int)))) 0))
theorem W_laws_szStringS {n:Nat} {E:List ByteArray} {F:Int} {r:Int} {w:World} {J:Value} {H:Nat} (hF:F_laws_szStringS n E F = some r) (hH:H ≤ w.heap.size) (G:slRep cStr w (Iv 0 H) E J) :
    Calls Tryz.prog 120 [J,.int .i64 F].toArray w (Ret fun u M => u = .int .i64 r∧Ext w M):=by
  refine calls_ofD Tryz.func120 rfl Tryz.ntmps120 ?_;have I:Ext w w:=Ext.refl w;unfold F_laws_szStringS at hF;refine Rc 9 (Yl rfl (yle rfl Tryz.underlying26 (G.oh hH I)) (Ro 11 (Wc rfl hF ?_ ?_)))
  · intro hF;refine Rc 7 ?_;obtain rfl:=szs hF;exact Ne rfl rfl ⟨_,rfl,rfl,I⟩
  · intro hF;refine Rc 9 ?_;refine WC.loopD (fun D a wl => ∃ (A:Int) (C:Int),Kn 28 [(0,J),(1,.int .i64 A),(5,.int .i64 C)] a∧Ext w wl∧w.heap.size ≤ wl.heap.size∧F_laws_szStringS_L1 E (fun A C => (some A)) D A C = some r) n ?_ ?_
    · intro a hK;exact ⟨(IntKind.wrap .i64 (F - ((E.length:Int)))),0,hK.sub rfl,I,Nat.le_refl _,hF⟩
    · rintro D a S ⟨A,C,hK,B,Q,hF⟩;revert a;change WC _ _ _ _ _ _
      cases D with
      | zero => exact nos hF
      | succ D =>
        rw [F_laws_szStringS_L1.eq_2] at hF;refine Rc 5 (Yl rfl (yle rfl Tryz.underlying26 (G.oh hH B)) (Ro 3 (Wc rfl hF ?_ ?_)))
        · intro hF;refine Rc 9 ?_;obtain ⟨N,L,hF⟩:=bsome hF;refine Ye rfl (yix rfl Tryz.underlying26 cn_9 (G.oh hH B) L) ?_;rintro _ ⟨O,R,_,rfl,P,rfl,K⟩;refine Yl rfl (ylc 0 rfl ag_9 K rfl rfl) (Yl rfl (yld_lens rfl Tryz.underlying9 rfl) (Ro 10 (Wc rfl hF ?_ ?_)))
          · intro hF;refine Rc 11 ?_;obtain rfl:=szs hF;exact Ne rfl rfl ⟨_,rfl,rfl,B⟩
          · intro hF;refine Rc 9 ?_;intro a hK;exact ⟨D,Nat.le.refl,(IntKind.wrap .i64 (A - ((N.size:Int)))),(IntKind.wrap .i64 (C + 1)),hK.sub rfl,B,(by omega),hF⟩
        · intro hF;refine Rc 12 ?_;obtain rfl:=szs hF;exact Ne rfl rfl ⟨_,rfl,rfl,B⟩
def F_laws_szPort (n:Nat) (a0:S_Port) (a1:Int):Option Int:=(bif decide (IntKind.wrap .i64 (a1 - ((a0.Name.size:Int))) < 0) then (some (-1)) else (some (IntKind.wrap .i64 (a1 - ((a0.Name.size:Int))))))
theorem W_laws_szPort {n:Nat} {A:S_Port} {D:Int} {r:Int} {w:World} (hF:F_laws_szPort n A D = some r) :
    Calls Tryz.prog 176 [.agg #[.string A.Name,.int .i64 A.Dir,.int .i64 A.Net],.int .i64 D].toArray w (Ret fun u C => u = .int .i64 r∧Ext w C):=by
  refine calls_ofD Tryz.func176 rfl Tryz.ntmps176 ?_;have G:Ext w w:=Ext.refl w;unfold F_laws_szPort at hF;refine Rc 2 (Ef rfl (eff_box rfl rfl) ?_);rintro _ C ⟨F,rfl,I,J,H,B⟩;have B:Box C F [.string A.Name,.int .i64 A.Dir,.int .i64 A.Net] 268:=B;obtain ⟨E,K⟩:=Et G H;refine Ro 6 (Yl rfl (yfa rfl fo_268_0) (Yl rfl (ylb rfl ag_9 B rfl) (Yl rfl (yld_lens rfl Tryz.underlying9 rfl) (Ro 11 (Wc rfl hF ?_ ?_)))))
  · intro hF;refine Rc 7 ?_;obtain rfl:=szs hF;exact Ne rfl rfl ⟨_,rfl,rfl,E⟩
  · intro hF;refine Rc 9 ?_;obtain rfl:=szs hF;exact Ne rfl rfl ⟨_,rfl,rfl,E⟩
def F_laws_szPortS_L1 (n:Nat) (a0:List S_Port) (k0:Int→Int→Option Int):Nat→Int→Int→Option Int
  | 0, _, _=>none
  | m + 1, i5, i6=>(bif decide (i6 < (a0.length:Int)) then (Option.bind (getI a0 i6) fun x7=>(Option.bind (F_laws_szPort n x7 i5) fun r15=>(bif decide (r15 < 0) then (some (-1)) else (F_laws_szPortS_L1 n a0 k0 m r15 (IntKind.wrap .i64 (i6 + 1)))))) else (k0 i5 i6))
def F_laws_szPortS (n:Nat) (a0:List S_Port) (a1:Int):Option Int:=(bif decide (IntKind.wrap .i64 (a1 - ((a0.length:Int))) < 0) then (some (-1)) else (F_laws_szPortS_L1 n a0 (fun i5 i6=>(some i5)) n (IntKind.wrap .i64 (a1 - ((a0.length:Int)))) 0))
theorem W_laws_szPortS {n:Nat} {D:List S_Port} {F:Int} {r:Int} {w:World} {J:Value} {H:Nat} (hF:F_laws_szPortS n D F = some r) (hH:H ≤ w.heap.size) (G:slRep C_Port w (Iv 0 H) D J) :
    Calls Tryz.prog 121 [J,.int .i64 F].toArray w (Ret fun u S => u = .int .i64 r∧Ext w S):=by
  refine calls_ofD Tryz.func121 rfl Tryz.ntmps121 ?_;have I:Ext w w:=Ext.refl w;unfold F_laws_szPortS at hF;refine Rc 9 (Yl rfl (yle rfl Tryz.underlying27 (G.oh hH I)) (Ro 11 (Wc rfl hF ?_ ?_)))
  · intro hF;refine Rc 7 ?_;obtain rfl:=szs hF;exact Ne rfl rfl ⟨_,rfl,rfl,I⟩
  · intro hF;refine Rc 9 ?_;refine WC.loopD (fun C a wl => ∃ (A:Int) (B:Int),Kn 27 [(0,J),(1,.int .i64 A),(5,.int .i64 B)] a∧Ext w wl∧w.heap.size ≤ wl.heap.size∧F_laws_szPortS_L1 n D (fun A B => (some A)) C A B = some r) n ?_ ?_
    · intro a hK;exact ⟨(IntKind.wrap .i64 (F - ((D.length:Int)))),0,hK.sub rfl,I,Nat.le_refl _,hF⟩
    · rintro C a b ⟨A,B,hK,E,W,hF⟩;revert a;change WC _ _ _ _ _ _
      cases C with
      | zero => exact nos hF
      | succ C =>
        rw [F_laws_szPortS_L1.eq_2] at hF;refine Rc 5 (Yl rfl (yle rfl Tryz.underlying27 (G.oh hH E)) (Ro 3 (Wc rfl hF ?_ ?_)))
        · intro hF;refine Rc 8 ?_;obtain ⟨K,Q,hF⟩:=bsome hF;refine Ye rfl (yix rfl Tryz.underlying27 cn_268 (G.oh hH E) Q) ?_;rintro _ ⟨T,X,Y,rfl,U,N,M⟩;obtain rfl:=C_Port_open N;refine Yl rfl (yln (us:=[.string K.Name,.int .i64 K.Dir,.int .i64 K.Net]) rfl ag_268 M cn_268) (Ro 1 ?_);obtain ⟨R,O,hF⟩:=bsome hF;refine Ef rfl (eca rfl gf_176 (W_laws_szPort O :)) ?_;rintro _ Z ⟨rfl,P⟩;obtain ⟨L,V⟩:=Et E P;refine Ro 9 (Wc rfl hF ?_ ?_)
          · intro hF;refine Rc 11 ?_;obtain rfl:=szs hF;exact Ne rfl rfl ⟨_,rfl,rfl,L⟩
          · intro hF;refine Rc 9 ?_;intro a hK;exact ⟨C,Nat.le.refl,R,(IntKind.wrap .i64 (B + 1)),hK.sub rfl,L,(by omega),hF⟩
        · intro hF;refine Rc 12 ?_;obtain rfl:=szs hF;exact Ne rfl rfl ⟨_,rfl,rfl,E⟩
def F_laws_szDesign (n:Nat) (a0:S_Design) (a1:Int):Option Int:=(Option.bind (F_laws_szInstanceS n a0.Instances a1) fun r14=>(bif decide (r14 < 0) then (some (-1)) else (Option.bind (F_laws_szStringS n a0.Nets r14) fun r20=>(bif decide (r20 < 0) then (some (-1)) else (Option.bind (F_laws_szPortS n a0.Ports r20) fun r26=>(bif decide (r26 < 0) then (some (-1)) else (some r26)))))))
theorem W_laws_szDesign {n:Nat} {B:S_Design} {I:Int} {r:Int} {w:World} {E:Value} {F:Value} {G:Value} {H:Nat} (hF:F_laws_szDesign n B I = some r) (hH:H ≤ w.heap.size) (O:slRep C_Instance w (Iv 0 H) B.Instances E) (P:slRep cStr w (Iv 0 H) B.Nets F) (Q:slRep C_Port w (Iv 0 H) B.Ports G) :
    Calls Tryz.prog 56 [.agg #[E,F,G],.int .i64 I].toArray w (Ret fun u X => u = .int .i64 r∧Ext w X):=by
  refine calls_ofD Tryz.func56 rfl Tryz.ntmps56 ?_;have R:Ext w w:=Ext.refl w;unfold F_laws_szDesign at hF;refine Rc 2 (Ef rfl (eff_box rfl rfl) ?_);rintro _ Y ⟨N,rfl,Z,a,S,A⟩;have A:Box Y N [E,F,G] 29:=A;obtain ⟨J,b⟩:=Et R S;refine Ro 5 (Yl rfl (yfa rfl fo_29_0) (Yl rfl (ylb rfl ag_25 A rfl) (Ro 1 ?_)));obtain ⟨f,T,hF⟩:=bsome hF;refine Ef rfl (eca rfl gf_119 (W_laws_szInstanceS T (by omega) (O.oh hH J) :)) ?_;rintro _ i ⟨rfl,L⟩;obtain ⟨C,c⟩:=Et J L;have A:=A.ext L;refine Ro 10 (Wc rfl hF ?_ ?_)
  · intro hF;refine Rc 7 ?_;obtain rfl:=szs hF;exact Ne rfl rfl ⟨_,rfl,rfl,C⟩
  · intro hF;refine Rc 4 (Yl rfl (yfa rfl fo_29_1) (Yl rfl (ylb rfl ag_26 A rfl) (Ro 1 ?_)));obtain ⟨g,U,hF⟩:=bsome hF;refine Ef rfl (eca rfl gf_120 (W_laws_szStringS U (by omega) (P.oh hH C) :)) ?_;rintro _ j ⟨rfl,M⟩;obtain ⟨D,d⟩:=Et C M;have A:=A.ext M;refine Ro 10 (Wc rfl hF ?_ ?_)
    · intro hF;refine Rc 7 ?_;obtain rfl:=szs hF;exact Ne rfl rfl ⟨_,rfl,rfl,D⟩
    · intro hF;refine Rc 4 (Yl rfl (yfa rfl fo_29_2) (Yl rfl (ylb rfl ag_27 A rfl) (Ro 1 ?_)));obtain ⟨h,V,hF⟩:=bsome hF;refine Ef rfl (eca rfl gf_121 (W_laws_szPortS V (by omega) (Q.oh hH D) :)) ?_;rintro _ k ⟨rfl,W⟩;obtain ⟨K,e⟩:=Et D W;refine Ro 10 (Wc rfl hF ?_ ?_)
      · intro hF;refine Rc 7 ?_;obtain rfl:=szs hF;exact Ne rfl rfl ⟨_,rfl,rfl,K⟩
      · intro hF;refine Rc 9 ?_;obtain rfl:=szs hF;exact Ne rfl rfl ⟨_,rfl,rfl,K⟩
def F_laws_szWire (n:Nat) (a0:S_Wire) (a1:Int):Option Int:=(Option.bind (F_laws_szInt64S n a0.Parent a1) fun r16=>(bif decide (r16 < 0) then (some (-1)) else (Option.bind (F_laws_szInt64S n a0.Res r16) fun r22=>(bif decide (r22 < 0) then (some (-1)) else (Option.bind (F_laws_szInt64S n a0.Cap r22) fun r28=>(bif decide (r28 < 0) then (some (-1)) else (Option.bind (F_laws_szInt64S n a0.Sink r28) fun r34=>(bif decide (r34 < 0) then (some (-1)) else (some r34)))))))))
theorem W_laws_szWire {n:Nat} {B:S_Wire} {K:Int} {r:Int} {w:World} {F:Value} {G:Value} {I:Value} {J:Value} {H:Nat} (hF:F_laws_szWire n B K = some r) (hH:H ≤ w.heap.size) (R:slRep (cInt .i64) w (Iv 0 H) B.Parent F) (S:slRep (cInt .i64) w (Iv 0 H) B.Res G) (T:slRep (cInt .i64) w (Iv 0 H) B.Cap I) (U:slRep (cInt .i64) w (Iv 0 H) B.Sink J) :
    Calls Tryz.prog 122 [.agg #[F,G,I,J],.int .i64 K].toArray w (Ret fun u d => u = .int .i64 r∧Ext w d):=by
  refine calls_ofD Tryz.func122 rfl Tryz.ntmps122 ?_;have V:Ext w w:=Ext.refl w;unfold F_laws_szWire at hF;refine Rc 2 (Ef rfl (eff_box rfl rfl) ?_);rintro _ c ⟨Q,rfl,e,f,W,A⟩;have A:Box c Q [F,G,I,J] 202:=A;obtain ⟨L,g⟩:=Et V W;refine Ro 5 (Yl rfl (yfa rfl fo_202_0) (Yl rfl (ylb rfl ag_75 A rfl) (Ro 1 ?_)));obtain ⟨l,X,hF⟩:=bsome hF;refine Ef rfl (eca rfl gf_177 (W_laws_szInt64S X (by omega) (R.oh hH L) :)) ?_;rintro _ q ⟨rfl,N⟩;obtain ⟨C,h⟩:=Et L N;have A:=A.ext N;refine Ro 10 (Wc rfl hF ?_ ?_)
  · intro hF;refine Rc 7 ?_;obtain rfl:=szs hF;exact Ne rfl rfl ⟨_,rfl,rfl,C⟩
  · intro hF;refine Rc 4 (Yl rfl (yfa rfl fo_202_1) (Yl rfl (ylb rfl ag_75 A rfl) (Ro 1 ?_)));obtain ⟨m,Y,hF⟩:=bsome hF;refine Ef rfl (eca rfl gf_177 (W_laws_szInt64S Y (by omega) (S.oh hH C) :)) ?_;rintro _ s ⟨rfl,O⟩;obtain ⟨D,i⟩:=Et C O;have A:=A.ext O;refine Ro 10 (Wc rfl hF ?_ ?_)
    · intro hF;refine Rc 7 ?_;obtain rfl:=szs hF;exact Ne rfl rfl ⟨_,rfl,rfl,D⟩
    · intro hF;refine Rc 4 (Yl rfl (yfa rfl fo_202_2) (Yl rfl (ylb rfl ag_75 A rfl) (Ro 1 ?_)));obtain ⟨o,Z,hF⟩:=bsome hF;refine Ef rfl (eca rfl gf_177 (W_laws_szInt64S Z (by omega) (T.oh hH D) :)) ?_;rintro _ t ⟨rfl,P⟩;obtain ⟨E,j⟩:=Et D P;have A:=A.ext P;refine Ro 10 (Wc rfl hF ?_ ?_)
      · intro hF;refine Rc 7 ?_;obtain rfl:=szs hF;exact Ne rfl rfl ⟨_,rfl,rfl,E⟩
      · intro hF;refine Rc 4 (Yl rfl (yfa rfl fo_202_3) (Yl rfl (ylb rfl ag_75 A rfl) (Ro 1 ?_)));obtain ⟨p,a,hF⟩:=bsome hF;refine Ef rfl (eca rfl gf_177 (W_laws_szInt64S a (by omega) (U.oh hH E) :)) ?_;rintro _ v ⟨rfl,b⟩;obtain ⟨M,k⟩:=Et E b;refine Ro 10 (Wc rfl hF ?_ ?_)
        · intro hF;refine Rc 7 ?_;obtain rfl:=szs hF;exact Ne rfl rfl ⟨_,rfl,rfl,M⟩
        · intro hF;refine Rc 9 ?_;obtain rfl:=szs hF;exact Ne rfl rfl ⟨_,rfl,rfl,M⟩
def F_laws_szWireS_L1 (n:Nat) (a0:List S_Wire) (k0:Int→Int→Option Int):Nat→Int→Int→Option Int
  | 0, _, _=>none
  | m + 1, i5, i6=>(bif decide (i6 < (a0.length:Int)) then (Option.bind (getI a0 i6) fun x7=>(Option.bind (F_laws_szWire n x7 i5) fun r23=>(bif decide (r23 < 0) then (some (-1)) else (F_laws_szWireS_L1 n a0 k0 m r23 (IntKind.wrap .i64 (i6 + 1)))))) else (k0 i5 i6))
def F_laws_szWireS (n:Nat) (a0:List S_Wire) (a1:Int):Option Int:=(bif decide (IntKind.wrap .i64 (a1 - ((a0.length:Int))) < 0) then (some (-1)) else (F_laws_szWireS_L1 n a0 (fun i5 i6=>(some i5)) n (IntKind.wrap .i64 (a1 - ((a0.length:Int)))) 0))
theorem W_laws_szWireS {n:Nat} {D:List S_Wire} {F:Int} {r:Int} {w:World} {J:Value} {H:Nat} (hF:F_laws_szWireS n D F = some r) (hH:H ≤ w.heap.size) (G:slRep C_Wire w (Iv 0 H) D J) :
    Calls Tryz.prog 57 [J,.int .i64 F].toArray w (Ret fun u Z => u = .int .i64 r∧Ext w Z):=by
  refine calls_ofD Tryz.func57 rfl Tryz.ntmps57 ?_;have I:Ext w w:=Ext.refl w;unfold F_laws_szWireS at hF;refine Rc 9 (Yl rfl (yle rfl Tryz.underlying30 (G.oh hH I)) (Ro 11 (Wc rfl hF ?_ ?_)))
  · intro hF;refine Rc 7 ?_;obtain rfl:=szs hF;exact Ne rfl rfl ⟨_,rfl,rfl,I⟩
  · intro hF;refine Rc 9 ?_;refine WC.loopD (fun C a wl => ∃ (A:Int) (B:Int),Kn 27 [(0,J),(1,.int .i64 A),(5,.int .i64 B)] a∧Ext w wl∧w.heap.size ≤ wl.heap.size∧F_laws_szWireS_L1 n D (fun A B => (some A)) C A B = some r) n ?_ ?_
    · intro a hK;exact ⟨(IntKind.wrap .i64 (F - ((D.length:Int)))),0,hK.sub rfl,I,Nat.le_refl _,hF⟩
    · rintro C a i ⟨A,B,hK,E,e,hF⟩;revert a;change WC _ _ _ _ _ _
      cases C with
      | zero => exact nos hF
      | succ C =>
        rw [F_laws_szWireS_L1.eq_2] at hF;refine Rc 5 (Yl rfl (yle rfl Tryz.underlying30 (G.oh hH E)) (Ro 3 (Wc rfl hF ?_ ?_)))
        · intro hF;refine Rc 8 ?_;obtain ⟨j,T,hF⟩:=bsome hF;refine Ye rfl (yix rfl Tryz.underlying30 cn_202 (G.oh hH E) T) ?_;rintro _ ⟨b,f,g,rfl,c,M,L⟩;obtain ⟨V,W,X,Y,rfl,O,P,Q,R⟩:=C_Wire_open M;refine Yl rfl (yln (us:=[V,W,X,Y]) rfl ag_202 L cn_202) (Ro 1 ?_);obtain ⟨U,N,hF⟩:=bsome hF;refine Ef rfl (eca rfl gf_122 (W_laws_szWire N (by omega) O P Q R :)) ?_;rintro _ h ⟨rfl,S⟩;obtain ⟨K,d⟩:=Et E S;refine Ro 9 (Wc rfl hF ?_ ?_)
          · intro hF;refine Rc 11 ?_;obtain rfl:=szs hF;exact Ne rfl rfl ⟨_,rfl,rfl,K⟩
          · intro hF;refine Rc 9 ?_;intro a hK;exact ⟨C,Nat.le.refl,U,(IntKind.wrap .i64 (B + 1)),hK.sub rfl,K,(by omega),hF⟩
        · intro hF;refine Rc 12 ?_;obtain rfl:=szs hF;exact Ne rfl rfl ⟨_,rfl,rfl,E⟩
def F_laws_szBlock (n:Nat) (a0:S_Block) (a1:Int):Option Int:=(Option.bind (F_laws_szLibrary n a0.Library a1) fun r18=>(bif decide (r18 < 0) then (some (-1)) else (Option.bind (F_laws_szDesign n a0.Design r18) fun r24=>(bif decide (r24 < 0) then (some (-1)) else (Option.bind (F_laws_szWireS n a0.Wires r24) fun r30=>(bif decide (r30 < 0) then (some (-1)) else (some r30)))))))
theorem W_laws_szBlock {n:Nat} {B:S_Block} {K:Int} {r:Int} {w:World} {D:Value} {E:Value} {F:Value} {G:Value} {J:Value} {H:Nat} (hF:F_laws_szBlock n B K = some r) (hH:H ≤ w.heap.size) (R:slRep C_Cell w (Iv 0 H) B.Library.Cells D) (S:slRep C_Instance w (Iv 0 H) B.Design.Instances E) (T:slRep cStr w (Iv 0 H) B.Design.Nets F) (U:slRep C_Port w (Iv 0 H) B.Design.Ports G) (Q:slRep C_Wire w (Iv 0 H) B.Wires J) :
    Calls Tryz.prog 14 [.agg #[D,E,F,G,J],.int .i64 K].toArray w (Ret fun u c => u = .int .i64 r∧Ext w c):=by
  refine calls_ofD Tryz.func14 rfl Tryz.ntmps14 ?_;have V:Ext w w:=Ext.refl w;unfold F_laws_szBlock at hF;refine Rc 2 (Ef rfl (eff_box rfl rfl) ?_);rintro _ b ⟨P,rfl,d,e,W,A⟩;have A:Box b P [D,E,F,G,J] 32:=A;obtain ⟨L,f⟩:=Et V W;refine Ro 5 (Yl rfl (yfa rfl fo_32_0) (Yl rfl (yln (us:=[D]) rfl ag_24 (CellsAt.sub (Box.cells A) 0 1:CellsAt _ _ _ [D]) cn_24) (Ro 1 ?_)));obtain ⟨j,X,hF⟩:=bsome hF;refine Ef rfl (eca rfl gf_55 (W_laws_szLibrary X (by omega) (R.oh hH L) :)) ?_;rintro _ m ⟨rfl,N⟩;obtain ⟨C,g⟩:=Et L N;have A:=A.ext N;refine Ro 10 (Wc rfl hF ?_ ?_)
  · intro hF;refine Rc 7 ?_;obtain rfl:=szs hF;exact Ne rfl rfl ⟨_,rfl,rfl,C⟩
  · intro hF;refine Rc 4 (Yl rfl (yfa rfl fo_32_1) (Yl rfl (yln (us:=[E,F,G]) rfl ag_29 (CellsAt.sub (Box.cells A) 1 3:CellsAt _ _ _ [E,F,G]) cn_29) (Ro 1 ?_)));obtain ⟨k,Y,hF⟩:=bsome hF;refine Ef rfl (eca rfl gf_56 (W_laws_szDesign Y (by omega) (S.oh hH C) (T.oh hH C) (U.oh hH C) :)) ?_;rintro _ o ⟨rfl,O⟩;obtain ⟨I,h⟩:=Et C O;have A:=A.ext O;refine Ro 10 (Wc rfl hF ?_ ?_)
    · intro hF;refine Rc 7 ?_;obtain rfl:=szs hF;exact Ne rfl rfl ⟨_,rfl,rfl,I⟩
    · intro hF;refine Rc 4 (Yl rfl (yfa rfl fo_32_2) (Yl rfl (ylb rfl ag_30 A rfl) (Ro 1 ?_)));obtain ⟨l,Z,hF⟩:=bsome hF;refine Ef rfl (eca rfl gf_57 (W_laws_szWireS Z (by omega) (Q.oh hH I) :)) ?_;rintro _ p ⟨rfl,a⟩;obtain ⟨M,i⟩:=Et I a;refine Ro 10 (Wc rfl hF ?_ ?_)
      · intro hF;refine Rc 7 ?_;obtain rfl:=szs hF;exact Ne rfl rfl ⟨_,rfl,rfl,M⟩
      · intro hF;refine Rc 9 ?_;obtain rfl:=szs hF;exact Ne rfl rfl ⟨_,rfl,rfl,M⟩
def F_laws_toInt64S_L1 (a0:List Int) (k0:Int→(List Int)→Option (List Int)):Nat→Int→(List Int)→Option (List Int)
  | 0, _, _=>none
  | m + 1, i19, l20=>(bif decide (i19 < (a0.length:Int)) then (Option.bind (getI a0 i19) fun x22=>(Option.bind (getI l20 i19) fun x30=>(F_laws_toInt64S_L1 a0 k0 m (IntKind.wrap .i64 (i19 + 1)) ((l20.set (i19).toNat x22))))) else (k0 i19 l20))
def F_laws_toInt64S (n:Nat) (a0:List Int):Option (List Int):=(Option.bind (mkN ((a0.length:Int)) 8) fun n3=>(F_laws_toInt64S_L1 a0 (fun i19 l20=>(some l20)) n 0 (List.replicate n3 0)))
theorem W_laws_toInt64S {n:Nat} {E:List Int} {r:List Int} {w:World} {I:Value} {H:Nat} (hF:F_laws_toInt64S n E = some r) (hH:H ≤ w.heap.size) (F:slRep (cInt .i64) w (Iv 0 H) E I) :
    Calls Tryz.prog 33 [I].toArray w (Ret fun u R => ∃ P,u = P∧ownR (cInt .i64) R w.heap.size (Iv 0 0) 2 r P∧Ext w R):=by
  refine calls_ofD Tryz.func33 rfl Tryz.ntmps33 ?_;have K:Ext w w:=Ext.refl w;unfold F_laws_toInt64S at hF;refine Rc 8 (Yl rfl (yle rfl Tryz.underlying75 (F.oh hH K)) ?_);obtain ⟨i,Y,hF⟩:=bsome hF;refine Ef rfl (eff_make (c:=(cInt .i64)) (z:=0) rfl Tryz.underlying75 in_2 rfl rfl rfl Y rfl rfl (fun _ => rfl)) ?_;rintro Q j ⟨S,N,o,q,f,b⟩;obtain ⟨W,s⟩:=Et K f;have T:=bd_of N;clear N;refine Ro 10 ?_;refine WC.loopD (fun C a wl => ∃ (A:Int) (B:List Int),Kn 22 [(0,I),(3,Q),(4,.int .i64 A)] a∧Ext w wl∧j.heap.size ≤ wl.heap.size∧ownR (cInt .i64) wl (S) (Iv 0 0) 2 B Q∧F_laws_toInt64S_L1 E (fun A B => (some B)) C A B = some r) n ?_ ?_
  · intro a hK;exact ⟨0,(List.replicate i 0),hK.sub rfl,W,Nat.le_refl _,b,hF⟩
  · rintro C a A0 ⟨A,B,hK,D,t,G,hF⟩;revert a;change WC _ _ _ _ _ _
    cases C with
    | zero => exact nos hF
    | succ C =>
      rw [F_laws_toInt64S_L1.eq_2] at hF;refine Rc 5 (Yl rfl (yle rfl Tryz.underlying75 (F.oh hH D)) (Ro 3 (Wc rfl hF ?_ ?_)))
      · intro hF;refine Rc 9 ?_;obtain ⟨J,g,hF⟩:=bsome hF;refine Ye rfl (yix rfl Tryz.underlying75 cn_2 (F.oh hH D) g) ?_;rintro _ ⟨l,x,_,rfl,p,rfl,U⟩;refine Yl rfl (ylc 0 rfl ag_2 U rfl rfl) ?_;obtain ⟨C0,O,hF⟩:=bsome hF;refine Ye rfl (yio rfl Tryz.underlying75 cn_2 G O) ?_;rintro _ ⟨m,y,rfl,L,M,V⟩;have Z:=M;obtain rfl:=M;refine Ef rfl (eff_store_own (c:=(cInt .i64)) (us':=[.int .i64 J]) (y':=J) 0 _ rfl rfl rfl G L O rfl cn_2 rfl Z V rfl rfl rfl (fun k h => absurd h.2 (Nat.not_lt_zero k))) ?_;rintro _ B0 ⟨e,d⟩;obtain ⟨X,v⟩:=Eu D e (by have:=T _ L;omega);refine Ro 9 ?_;intro a hK;exact ⟨C,Nat.le.refl,(IntKind.wrap .i64 (A + 1)),((B.set (A).toNat J)),hK.sub rfl,X,(by omega),d,hF⟩
      · intro hF;refine Rc 12 ?_;obtain rfl:=szs hF;exact Ne rfl rfl ⟨_,rfl,_,rfl,ownR.base G (by omega),D⟩
def F_laws_toPin (n:Nat) (a0:S_Pin):Option S_Pin:=(some a0)
theorem W_laws_toPin {n:Nat} {A:S_Pin} {r:S_Pin} {w:World} (hF:F_laws_toPin n A = some r) :
    Calls Tryz.prog 245 [.agg #[.string A.Name,.int .i64 A.Dir,.int .i64 A.Cap,.bool A.Clock]].toArray w (Ret fun u J => u = .agg #[.string r.Name,.int .i64 r.Dir,.int .i64 r.Cap,.bool r.Clock]∧Ext w J):=by
  refine calls_ofD Tryz.func245 rfl Tryz.ntmps245 ?_;have T:Ext w w:=Ext.refl w;unfold F_laws_toPin at hF;refine Rc 2 (Ef rfl (eff_box rfl rfl) ?_);rintro _ J ⟨N,rfl,o,p,c,B⟩;have B:Box J N [.string A.Name,.int .i64 A.Dir,.int .i64 A.Cap,.bool A.Clock] 323:=B;obtain ⟨b,A0⟩:=Et T c;refine Ef rfl (eff_alloc rfl zn_307) ?_;rintro _ C0 ⟨K,rfl,j,k,L,C⟩;obtain ⟨U,q⟩:=Et b L;have B:=B.ext L;refine Ro 4 (Ef rfl (eff_alloc rfl zn_307) ?_);rintro _ B0 ⟨E,rfl,l,m,F,D⟩;obtain ⟨V,s⟩:=Et U F;have B:=B.ext F;have C:=C.ext F;refine Ro 4 (Yl rfl (yfa rfl fo_323_0) (Yl rfl (ylb rfl ag_9 B rfl) (Yl rfl (yfa rfl fo_307_0) (Ef rfl (est rfl D cn_9 rfl rfl) ?_))));rintro _ e ⟨G,O⟩;obtain ⟨W,t⟩:=Eu V G (by omega);have B:=B.upd G (by omega);have C:=C.upd G (by omega);have D:Box e E [.string A.Name,.int .i64 0,.int .i64 0,.bool false] 307:=O;refine Ro 4 (Yl rfl (yfa rfl fo_323_1) (Yl rfl (ylb rfl ag_2 B rfl) (Yl rfl (yfa rfl fo_307_1) (Ef rfl (est rfl D cn_2 rfl rfl) ?_))));rintro _ f ⟨H,P⟩;obtain ⟨X,v⟩:=Eu W H (by omega);have B:=B.upd H (by omega);have C:=C.upd H (by omega);have D:Box f E [.string A.Name,.int .i64 A.Dir,.int .i64 0,.bool false] 307:=P;refine Ro 4 (Yl rfl (yfa rfl fo_323_2) (Yl rfl (ylb rfl ag_2 B rfl) (Yl rfl (yfa rfl fo_307_2) (Ef rfl (est rfl D cn_2 rfl rfl) ?_))));rintro _ g ⟨I,Q⟩;obtain ⟨Y,x⟩:=Eu X I (by omega);have B:=B.upd I (by omega);have C:=C.upd I (by omega);have D:Box g E [.string A.Name,.int .i64 A.Dir,.int .i64 A.Cap,.bool false] 307:=Q;refine Ro 4 (Yl rfl (yfa rfl fo_323_3) (Yl rfl (ylb rfl ag_4 B rfl) (Yl rfl (yfa rfl fo_307_3) (Ef rfl (est rfl D cn_4 rfl rfl) ?_))));rintro _ h ⟨M,R⟩;obtain ⟨Z,y⟩:=Eu Y M (by omega);have C:=C.upd M (by omega);have D:Box h E [.string A.Name,.int .i64 A.Dir,.int .i64 A.Cap,.bool A.Clock] 307:=R;refine Ro 4 (Yl rfl (ynb rfl ag_307 D cn_307) (Ef rfl (est rfl C cn_307 rfl rfl) ?_));rintro _ i ⟨d,S⟩;obtain ⟨a,z⟩:=Eu Z d (by omega);have C:Box i K [.string A.Name,.int .i64 A.Dir,.int .i64 A.Cap,.bool A.Clock] 307:=S;refine Ro 3 ?_;obtain rfl:=szs hF;exact NX.end (rs:=[.cell 2 307]) (vs:=[.agg #[.string A.Name,.int .i64 A.Dir,.int .i64 A.Cap,.bool A.Clock]]) rfl ⟨⟨K,rfl,box_load ag_307 cn_307 C⟩,trivial⟩ ⟨_,rfl,rfl,a⟩
def F_laws_toPinS_L1 (n:Nat) (a0:List S_Pin) (k0:Int→(List S_Pin)→Option (List S_Pin)):Nat→Int→(List S_Pin)→Option (List S_Pin)
  | 0, _, _=>none
  | m + 1, i19, l20=>(bif decide (i19 < (a0.length:Int)) then (Option.bind (getI a0 i19) fun x22=>(Option.bind (F_laws_toPin n x22) fun r30=>(Option.bind (getI l20 i19) fun x36=>(F_laws_toPinS_L1 n a0 k0 m (IntKind.wrap .i64 (i19 + 1)) ((l20.set (i19).toNat r30)))))) else (k0 i19 l20))
def F_laws_toPinS (n:Nat) (a0:List S_Pin):Option (List S_Pin):=(Option.bind (mkN ((a0.length:Int)) 40) fun n3=>(F_laws_toPinS_L1 n a0 (fun i19 l20=>(some l20)) n 0 (List.replicate n3 ((S_Pin.mk ByteArray.empty 0 0 false)))))
theorem W_laws_toPinS {n:Nat} {I:List S_Pin} {r:List S_Pin} {w:World} {K:Value} {H:Nat} (hF:F_laws_toPinS n I = some r) (hH:H ≤ w.heap.size) (J:slRep C_Pin w (Iv 0 H) I K) :
    Calls Tryz.prog 220 [K].toArray w (Ret fun u T => ∃ R,u = R∧ownR C_Pin T w.heap.size (Iv 0 0) 307 r R∧Ext w T):=by
  refine calls_ofD Tryz.func220 rfl Tryz.ntmps220 ?_;have L:Ext w w:=Ext.refl w;unfold F_laws_toPinS at hF;refine Rc 8 (Yl rfl (yle rfl Tryz.underlying261 (J.oh hH L)) ?_);obtain ⟨p,d,hF⟩:=bsome hF;refine Ef rfl (eff_make (c:=C_Pin) (z:=(S_Pin.mk ByteArray.empty 0 0 false)) rfl Tryz.underlying157 in_307 rfl rfl rfl d rfl rfl (fun _ => C_Pin_mk)) ?_;rintro S q ⟨U,O,v,y,m,i⟩;obtain ⟨Y,A0⟩:=Et L m;have V:=bd_of O;clear O;refine Ro 10 ?_;refine WC.loopD (fun E a wl => ∃ (A:Int) (B:List S_Pin),Kn 23 [(0,K),(3,S),(4,.int .i64 A)] a∧Ext w wl∧q.heap.size ≤ wl.heap.size∧ownR C_Pin wl (U) (Iv 0 0) 307 B S∧F_laws_toPinS_L1 n I (fun A B => (some B)) E A B = some r) n ?_ ?_
  · intro a hK;exact ⟨0,(List.replicate p ((S_Pin.mk ByteArray.empty 0 0 false))),hK.sub rfl,Y,Nat.le_refl _,i,hF⟩
  · rintro E a H0 ⟨A,B,hK,F,B0,D,hF⟩;revert a;change WC _ _ _ _ _ _
    cases E with
    | zero => exact nos hF
    | succ E =>
      rw [F_laws_toPinS_L1.eq_2] at hF;refine Rc 5 (Yl rfl (yle rfl Tryz.underlying261 (J.oh hH F)) (Ro 3 (Wc rfl hF ?_ ?_)))
      · intro hF;refine Rc 9 ?_;obtain ⟨G,o,hF⟩:=bsome hF;refine Ye rfl (yix rfl Tryz.underlying261 cn_323 (J.oh hH F) o) ?_;rintro _ ⟨s,E0,F0,rfl,x,e,W⟩;obtain rfl:=C_Pin_open e;refine Yl rfl (yln (us:=[.string G.Name,.int .i64 G.Dir,.int .i64 G.Cap,.bool G.Clock]) rfl ag_323 W cn_323) ?_;obtain ⟨C,f,hF⟩:=bsome hF;refine Ef rfl (eca rfl gf_245 (W_laws_toPin f :)) ?_;rintro _ I0 ⟨rfl,P⟩;obtain ⟨Z,C0⟩:=Et F P;have D:=D.ext P;obtain ⟨K0,Q,hF⟩:=bsome hF;refine Ye rfl (yio rfl Tryz.underlying157 cn_307 D Q) ?_;rintro _ ⟨t,G0,rfl,M,N,X⟩;have g:=N;obtain rfl:=C_Pin_open N;refine Ef rfl (eff_store_own (c:=C_Pin) (us':=[.string C.Name,.int .i64 C.Dir,.int .i64 C.Cap,.bool C.Clock]) (y':=C) 0 _ rfl rfl rfl D M Q rfl cn_307 rfl g X rfl rfl C_Pin_mk (fun k h => absurd h.2 (Nat.not_lt_zero k))) ?_;rintro _ J0 ⟨l,j⟩;obtain ⟨b,D0⟩:=Eu Z l (by have:=V _ M;omega);refine Ro 9 ?_;intro a hK;exact ⟨E,Nat.le.refl,(IntKind.wrap .i64 (A + 1)),((B.set (A).toNat C)),hK.sub rfl,b,(by omega),j,hF⟩
      · intro hF;refine Rc 12 ?_;obtain rfl:=szs hF;exact Ne rfl rfl ⟨_,rfl,_,rfl,ownR.base D (by omega),F⟩
def F_laws_toTable (n:Nat) (a0:S_Table):Option S_Table:=(Option.bind (F_laws_toInt64S n a0.Slews) fun r28=>(Option.bind (F_laws_toInt64S n a0.Loads) fun r43=>(Option.bind (F_laws_toInt64S n a0.Values) fun r58=>(some ((S_Table.mk r28 r43 r58))))))
theorem W_laws_toTable {n:Nat} {O:S_Table} {r:S_Table} {w:World} {a:Value} {b:Value} {c:Value} {H:Nat} (hF:F_laws_toTable n O = some r) (hH:H ≤ w.heap.size) (l:slRep (cInt .i64) w (Iv 0 H) O.Slews a) (m:slRep (cInt .i64) w (Iv 0 H) O.Loads b) (o:slRep (cInt .i64) w (Iv 0 H) O.Values c) :
    Calls Tryz.prog 279 [.agg #[a,b,c]].toArray w (Ret fun u X => ∃ T U V,u = .agg #[T,U,V]∧ownR (cInt .i64) X w.heap.size (Iv 0 0) 2 r.Slews T∧ownR (cInt .i64) X w.heap.size (Iv 0 0) 2 r.Loads U∧ownR (cInt .i64) X w.heap.size (Iv 0 0) 2 r.Values V∧(∀ g q,U.ownBlock = some g → T.ownBlock = some q → g ≠ q)∧(∀ g q,V.ownBlock = some g → T.ownBlock = some q → g ≠ q)∧(∀ g q,V.ownBlock = some g → U.ownBlock = some q → g ≠ q)∧Ext w X):=by
  refine calls_ofD Tryz.func279 rfl Tryz.ntmps279 ?_;have x:Ext w w:=Ext.refl w;unfold F_laws_toTable at hF;refine Rc 2 (Ef rfl (eff_box rfl rfl) ?_);rintro _ N0 ⟨k,rfl,S0,T0,F0,A⟩;have A:Box N0 k [a,b,c] 358:=A;obtain ⟨y,U0⟩:=Et x F0;refine Ef rfl (eff_alloc rfl zn_294) ?_;rintro _ h0 ⟨e,rfl,O0,P0,j,B⟩;obtain ⟨z,V0⟩:=Et y j;have A:=A.ext j;refine Ro 4 (Ef rfl (eff_alloc rfl zn_294) ?_);rintro _ i0 ⟨Y,rfl,Q0,R0,Z,D⟩;obtain ⟨f,W0⟩:=Et z Z;have A:=A.ext Z;have B:=B.ext Z;refine Ro 4 (Yl rfl (yfa rfl fo_358_0) (Yl rfl (ylb rfl ag_75 A rfl) ?_));obtain ⟨e0,G0,hF⟩:=bsome hF;refine Ef rfl (eca rfl gf_33 (W_laws_toInt64S G0 (by omega) (l.oh hH f) :)) ?_;rintro N j0 ⟨_,rfl,C,S⟩;obtain ⟨A0,X0⟩:=Et f S;have A:=A.ext S;have B:=B.ext S;have D:=D.ext S;have G:=ownR.blk C;refine Yl rfl (yfa rfl fo_294_0) (Ef rfl (eff_store1 rfl rfl rfl D cn_75 (slRep.cells (ownR.slf C (Nat.le_refl _) (Nat.le_refl _))) (slRep.one (ownR.slf C (Nat.le_refl _) (Nat.le_refl _))) rfl) ?_);rintro _ J0 ⟨Q,p⟩;obtain ⟨h,Y0⟩:=Eu A0 Q (by omega);have A:=A.upd Q (by omega);have B:=B.upd Q (by omega);have C:=C.upd Q (Nb.of G (by omega));have D:Box J0 Y [N,.slice none 0 0,.slice none 0 0] 294:=p;refine Ro 4 (Yl rfl (yfa rfl fo_358_1) (Yl rfl (ylb rfl ag_75 A rfl) ?_));obtain ⟨f0,H0,hF⟩:=bsome hF;refine Ef rfl (eca rfl gf_33 (W_laws_toInt64S H0 (by omega) (m.oh hH h) :)) ?_;rintro W k0 ⟨_,rfl,E,L⟩;obtain ⟨B0,Z0⟩:=Et h L;have A:=A.ext L;have B:=B.ext L;have D:=D.ext L;have C:=C.ext L;have I:=ownR.blk E;refine Yl rfl (yfa rfl fo_294_1) (Ef rfl (eff_store1 rfl rfl rfl D cn_75 (slRep.cells (ownR.slf E (Nat.le_refl _) (Nat.le_refl _))) (slRep.one (ownR.slf E (Nat.le_refl _) (Nat.le_refl _))) rfl) ?_);rintro _ K0 ⟨J,s⟩;obtain ⟨i,a0⟩:=Eu B0 J (by omega);have A:=A.upd J (by omega);have B:=B.upd J (by omega);have C:=C.upd J (Nb.of G (by omega));have E:=E.upd J (Nb.of I (by omega));have D:Box K0 Y [N,W,.slice none 0 0] 294:=s;refine Ro 4 (Yl rfl (yfa rfl fo_358_2) (Yl rfl (ylb rfl ag_75 A rfl) ?_));obtain ⟨g0,I0,hF⟩:=bsome hF;refine Ef rfl (eca rfl gf_33 (W_laws_toInt64S I0 (by omega) (o.oh hH i) :)) ?_;rintro d l0 ⟨_,rfl,F,M⟩;obtain ⟨C0,b0⟩:=Et i M;have B:=B.ext M;have D:=D.ext M;have C:=C.ext M;have E:=E.ext M;have P:=ownR.blk F;refine Yl rfl (yfa rfl fo_294_2) (Ef rfl (eff_store1 rfl rfl rfl D cn_75 (slRep.cells (ownR.slf F (Nat.le_refl _) (Nat.le_refl _))) (slRep.one (ownR.slf F (Nat.le_refl _) (Nat.le_refl _))) rfl) ?_);rintro _ L0 ⟨K,t⟩;obtain ⟨D0,c0⟩:=Eu C0 K (by omega);have B:=B.upd K (by omega);have C:=C.upd K (Nb.of G (by omega));have E:=E.upd K (Nb.of I (by omega));have F:=F.upd K (Nb.of P (by omega));have D:Box L0 Y [N,W,d] 294:=t;refine Ro 4 (Yl rfl (ynb rfl ag_294 D cn_294) (Ef rfl (est rfl B cn_294 (allc_cons (slRep.one (ownR.slf C (Nat.le_refl _) (Nat.le_refl _))) (allc_cons (slRep.one (ownR.slf E (Nat.le_refl _) (Nat.le_refl _))) (allc_cons (slRep.one (ownR.slf F (Nat.le_refl _) (Nat.le_refl _))) allc_nil))) rfl) ?_));rintro _ M0 ⟨R,v⟩;obtain ⟨E0,d0⟩:=Eu D0 R (by omega);have C:=C.upd R (Nb.of G (by omega));have E:=E.upd R (Nb.of I (by omega));have F:=F.upd R (Nb.of P (by omega));have B:Box M0 e [N,W,d] 294:=v;refine Ro 3 ?_;obtain rfl:=szs hF;exact NX.end (rs:=[.cell 2 294]) (vs:=[.agg #[N,W,d]]) rfl ⟨⟨e,rfl,box_load ag_294 cn_294 B⟩,trivial⟩ ⟨_,rfl,_,_,_,rfl,ownR.base C (by omega),ownR.base E (by omega),ownR.base F (by omega),(No.of I G (by omega)),(No.of P G (by omega)),(No.of P I (by omega)),E0⟩
def F_laws_toTableS_L1 (n:Nat) (a0:List S_Table) (k0:Int→(List S_Table)→Option (List S_Table)):Nat→Int→(List S_Table)→Option (List S_Table)
  | 0, _, _=>none
  | m + 1, i19, l20=>(bif decide (i19 < (a0.length:Int)) then (Option.bind (getI a0 i19) fun x22=>(Option.bind (F_laws_toTable n x22) fun r36=>(Option.bind (getI l20 i19) fun x57=>(F_laws_toTableS_L1 n a0 k0 m (IntKind.wrap .i64 (i19 + 1)) ((l20.set (i19).toNat r36)))))) else (k0 i19 l20))
def F_laws_toTableS (n:Nat) (a0:List S_Table):Option (List S_Table):=(Option.bind (mkN ((a0.length:Int)) 72) fun n3=>(F_laws_toTableS_L1 n a0 (fun i19 l20=>(some l20)) n 0 (List.replicate n3 ((S_Table.mk (([]:List Int)) (([]:List Int)) (([]:List Int)))))))
theorem W_laws_toTableS {n:Nat} {G:List S_Table} {r:List S_Table} {w:World} {Q:Value} {H:Nat} (hF:F_laws_toTableS n G = some r) (hH:H ≤ w.heap.size) (I:slRep C_Table w (Iv 0 H) G Q) :
    Calls Tryz.prog 264 [Q].toArray w (Ret fun u S => ∃ P,u = P∧ownR C_Table S w.heap.size (SX w.heap.size S.heap.size P) 294 r P∧Ext w S):=by
  refine calls_ofD Tryz.func264 rfl Tryz.ntmps264 ?_;have U:Ext w w:=Ext.refl w;unfold F_laws_toTableS at hF;refine Rc 8 (Yl rfl (yle rfl Tryz.underlying325 (I.oh hH U)) ?_);obtain ⟨A0,j,hF⟩:=bsome hF;refine Ef rfl (eff_make (c:=C_Table) (z:=(S_Table.mk (([]:List Int)) (([]:List Int)) (([]:List Int)))) rfl Tryz.underlying250 in_294 rfl rfl rfl j rfl rfl (fun _ => C_Table_mk (slRep.nil _ _ _) (slRep.nil _ _ _) (slRep.nil _ _ _))) ?_;rintro R I0 ⟨T,O,O0,W0,x,K⟩;obtain ⟨f,X0⟩:=Et U x;have K:=ownR.toN K O;have D:=bd_of O;clear O;refine Ro 10 ?_;refine WC.loopD (fun C a wl => ∃ (A:Int) (B:List S_Table),Kn 23 [(0,Q),(3,R),(4,.int .i64 A)] a∧Ext w wl∧I0.heap.size ≤ wl.heap.size∧ownR C_Table wl (T) (SX (T) wl.heap.size R) 294 B R∧F_laws_toTableS_L1 n G (fun A B => (some B)) C A B = some r) n ?_ ?_
  · intro a hK;exact ⟨0,(List.replicate A0 ((S_Table.mk (([]:List Int)) (([]:List Int)) (([]:List Int))))),hK.sub rfl,f,Nat.le_refl _,(ownR.wideN K (by omega)),hF⟩
  · rintro C a h0 ⟨A,B,hK,E,Y0,F,hF⟩;revert a;change WC _ _ _ _ _ _
    cases C with
    | zero => exact nos hF
    | succ C =>
      rw [F_laws_toTableS_L1.eq_2] at hF;refine Rc 5 (Yl rfl (yle rfl Tryz.underlying325 (I.oh hH E)) (Ro 3 (Wc rfl hF ?_ ?_)))
      · intro hF;refine Rc 9 ?_;obtain ⟨j0,y,hF⟩:=bsome hF;refine Ye rfl (yix rfl Tryz.underlying325 cn_358 (I.oh hH E) y) ?_;rintro _ ⟨J0,b0,c0,rfl,P0,l,b⟩;obtain ⟨B0,C0,D0,rfl,p,q,s⟩:=C_Table_open l;refine Yl rfl (yln (us:=[B0,C0,D0]) rfl ag_358 b cn_358) ?_;obtain ⟨Z,m,hF⟩:=bsome hF;refine Ef rfl (eca rfl gf_279 (W_laws_toTable m (by omega) p q s :)) ?_;rintro _ H0 ⟨E0,F0,G0,rfl,L,M,N,Q0,R0,S0,X⟩;obtain ⟨g,Z0⟩:=Et E X;have F:=F.extN X (by omega);have L0:=ownR.blk L;have M0:=ownR.blk M;have N0:=ownR.blk N;obtain ⟨k0,Y,hF⟩:=bsome hF;have W:=ownR.wideN (hi':=H0.heap.size) F (by omega);refine Ye rfl (yio rfl Tryz.underlying250 cn_294 W Y) ?_;rintro _ ⟨K0,d0,rfl,J,V,d⟩;have o:=V;obtain ⟨e0,f0,g0,rfl,T0,U0,V0⟩:=C_Table_open V;refine Ef rfl (eff_store_own (c:=C_Table) (us':=[E0,F0,G0]) (y':=Z) 0 _ rfl rfl rfl W J Y rfl cn_294 (allc_cons (slRep.one (ownR.slf L (Nat.le_refl _) (Nat.le_refl _))) (allc_cons (slRep.one (ownR.slf M (Nat.le_refl _) (Nat.le_refl _))) (allc_cons (slRep.one (ownR.slf N (Nat.le_refl _) (Nat.le_refl _))) allc_nil))) o d rfl rfl (C_Table_mk ((ownR.slf L (Nat.le_refl _) (Nat.le_refl _)).mono (fun k h => ⟨by have:=h.1;omega,by have:=h.2;omega,fun e => by have:=D k e;have:=h.1;have:=h.2;omega⟩) (fun _ _ => rfl)) ((ownR.slf M (Nat.le_refl _) (Nat.le_refl _)).mono (fun k h => ⟨by have:=h.1;omega,by have:=h.2;omega,fun e => by have:=D k e;have:=h.1;have:=h.2;omega⟩) (fun _ _ => rfl)) ((ownR.slf N (Nat.le_refl _) (Nat.le_refl _)).mono (fun k h => ⟨by have:=h.1;omega,by have:=h.2;omega,fun e => by have:=D k e;have:=h.1;have:=h.2;omega⟩) (fun _ _ => rfl))) (fun k h e => h.2.2 (e ▸ J))) ?_;rintro _ i0 ⟨v,t⟩;obtain ⟨i,a0⟩:=Eu g v (by have:=D _ J;omega);refine Ro 9 ?_;intro a hK;exact ⟨C,Nat.le.refl,(IntKind.wrap .i64 (A + 1)),((B.set (A).toNat Z)),hK.sub rfl,i,(by omega),(ownR.wideN t (by omega)),hF⟩
      · intro hF;refine Rc 12 ?_;obtain rfl:=szs hF;exact Ne rfl rfl ⟨_,rfl,_,rfl,ownR.baseN (ownR.wideN F (by omega)) (by omega),E⟩
def F_laws_toArc (n:Nat) (a0:S_Arc):Option S_Arc:=(Option.bind (F_laws_toTableS n a0.Delay) fun r46=>(Option.bind (F_laws_toTableS n a0.Slew) fun r61=>(some ((S_Arc.mk a0.Kind a0.From a0.To a0.Sense r46 r61)))))
theorem W_laws_toArc {n:Nat} {A:S_Arc} {r:S_Arc} {w:World} {Y:Value} {Z:Value} {H:Nat} (hF:F_laws_toArc n A = some r) (hH:H ≤ w.heap.size) (h:slRep C_Table w (Iv 0 H) A.Delay Y) (i:slRep C_Table w (Iv 0 H) A.Slew Z) :
    Calls Tryz.prog 246 [.agg #[.int .i64 A.Kind,.int .i64 A.From,.int .i64 A.To,.int .i64 A.Sense,Y,Z]].toArray w (Ret fun u I => ∃ O P,u = .agg #[.int .i64 r.Kind,.int .i64 r.From,.int .i64 r.To,.int .i64 r.Sense,O,P]∧ownR C_Table I w.heap.size (SX w.heap.size I.heap.size O) 294 r.Delay O∧ownR C_Table I w.heap.size (SX w.heap.size I.heap.size P) 294 r.Slew P∧(∀ g q,P.ownBlock = some g → O.ownBlock = some q → g ≠ q)∧Ext w I):=by
  refine calls_ofD Tryz.func246 rfl Tryz.ntmps246 ?_;have t:Ext w w:=Ext.refl w;unfold F_laws_toArc at hF;refine Rc 2 (Ef rfl (eff_box rfl rfl) ?_);rintro _ O0 ⟨f,rfl,V0,W0,G0,B⟩;have B:Box O0 f [.int .i64 A.Kind,.int .i64 A.From,.int .i64 A.To,.int .i64 A.Sense,Y,Z] 327:=B;obtain ⟨v,X0⟩:=Et t G0;refine Ef rfl (eff_alloc rfl zn_252) ?_;rintro _ l0 ⟨b,rfl,R0,S0,e,C⟩;obtain ⟨x,Y0⟩:=Et v e;have B:=B.ext e;refine Ro 4 (Ef rfl (eff_alloc rfl zn_252) ?_);rintro _ m0 ⟨G,rfl,T0,U0,S,D⟩;obtain ⟨y,Z0⟩:=Et x S;have B:=B.ext S;have C:=C.ext S;refine Ro 4 (Yl rfl (yfa rfl fo_327_0) (Yl rfl (ylb rfl ag_2 B rfl) (Yl rfl (yfa rfl fo_252_0) (Ef rfl (est rfl D cn_2 rfl rfl) ?_))));rintro _ J0 ⟨T,j⟩;obtain ⟨z,a0⟩:=Eu y T (by omega);have B:=B.upd T (by omega);have C:=C.upd T (by omega);have D:Box J0 G [.int .i64 A.Kind,.int .i64 0,.int .i64 0,.int .i64 0,.slice none 0 0,.slice none 0 0] 252:=j;refine Ro 4 (Yl rfl (yfa rfl fo_327_1) (Yl rfl (ylb rfl ag_2 B rfl) (Yl rfl (yfa rfl fo_252_1) (Ef rfl (est rfl D cn_2 rfl rfl) ?_))));rintro _ K0 ⟨U,k⟩;obtain ⟨A0,b0⟩:=Eu z U (by omega);have B:=B.upd U (by omega);have C:=C.upd U (by omega);have D:Box K0 G [.int .i64 A.Kind,.int .i64 A.From,.int .i64 0,.int .i64 0,.slice none 0 0,.slice none 0 0] 252:=k;refine Ro 4 (Yl rfl (yfa rfl fo_327_2) (Yl rfl (ylb rfl ag_2 B rfl) (Yl rfl (yfa rfl fo_252_2) (Ef rfl (est rfl D cn_2 rfl rfl) ?_))));rintro _ L0 ⟨V,l⟩;obtain ⟨B0,c0⟩:=Eu A0 V (by omega);have B:=B.upd V (by omega);have C:=C.upd V (by omega);have D:Box L0 G [.int .i64 A.Kind,.int .i64 A.From,.int .i64 A.To,.int .i64 0,.slice none 0 0,.slice none 0 0] 252:=l;refine Ro 4 (Yl rfl (yfa rfl fo_327_3) (Yl rfl (ylb rfl ag_2 B rfl) (Yl rfl (yfa rfl fo_252_3) (Ef rfl (est rfl D cn_2 rfl rfl) ?_))));rintro _ M0 ⟨W,m⟩;obtain ⟨c,d0⟩:=Eu B0 W (by omega);have B:=B.upd W (by omega);have C:=C.upd W (by omega);have D:Box M0 G [.int .i64 A.Kind,.int .i64 A.From,.int .i64 A.To,.int .i64 A.Sense,.slice none 0 0,.slice none 0 0] 252:=m;refine Ro 4 (Yl rfl (yfa rfl fo_327_4) (Yl rfl (ylb rfl ag_325 B rfl) ?_));obtain ⟨j0,H0,hF⟩:=bsome hF;refine Ef rfl (eca rfl gf_264 (W_laws_toTableS H0 (by omega) (h.oh hH c) :)) ?_;rintro Q n0 ⟨_,rfl,E,M⟩;obtain ⟨C0,e0⟩:=Et c M;have B:=B.ext M;have C:=C.ext M;have D:=D.ext M;have J:=ownR.blk E;refine Yl rfl (yfa rfl fo_252_4) (Ef rfl (eff_store1 rfl rfl rfl D cn_250 (slRep.cells (ownR.slN E (Nat.le_refl _) (Nat.le_refl _) (by omega))) (slRep.one (ownR.slN E (Nat.le_refl _) (Nat.le_refl _) (by omega))) rfl) ?_);rintro _ N0 ⟨K,o⟩;obtain ⟨d,f0⟩:=Eu C0 K (by omega);have B:=B.upd K (by omega);have C:=C.upd K (by omega);have E:=E.updN K (Nb.of J (by omega)) (by omega);have D:Box N0 G [.int .i64 A.Kind,.int .i64 A.From,.int .i64 A.To,.int .i64 A.Sense,Q,.slice none 0 0] 252:=o;refine Ro 4 (Yl rfl (yfa rfl fo_327_5) (Yl rfl (ylb rfl ag_325 B rfl) ?_));obtain ⟨k0,I0,hF⟩:=bsome hF;refine Ef rfl (eca rfl gf_264 (W_laws_toTableS I0 (by omega) (i.oh hH d) :)) ?_;rintro a o0 ⟨_,rfl,F,N⟩;obtain ⟨D0,g0⟩:=Et d N;have C:=C.ext N;have D:=D.ext N;have E:=E.extN N (by omega);have R:=ownR.blk F;refine Yl rfl (yfa rfl fo_252_5) (Ef rfl (eff_store1 rfl rfl rfl D cn_250 (slRep.cells (ownR.slN F (Nat.le_refl _) (Nat.le_refl _) (by omega))) (slRep.one (ownR.slN F (Nat.le_refl _) (Nat.le_refl _) (by omega))) rfl) ?_);rintro _ P0 ⟨L,p⟩;obtain ⟨E0,h0⟩:=Eu D0 L (by omega);have C:=C.upd L (by omega);have E:=E.updN L (Nb.of J (by omega)) (by omega);have F:=F.updN L (Nb.of R (by omega)) (by omega);have D:Box P0 G [.int .i64 A.Kind,.int .i64 A.From,.int .i64 A.To,.int .i64 A.Sense,Q,a] 252:=p;refine Ro 4 (Yl rfl (ynb rfl ag_252 D cn_252) (Ef rfl (est rfl C cn_252 (allc_cons rfl (allc_cons rfl (allc_cons rfl (allc_cons rfl (allc_cons (slRep.one (ownR.slN E (Nat.le_refl _) (Nat.le_refl _) (by omega))) (allc_cons (slRep.one (ownR.slN F (Nat.le_refl _) (Nat.le_refl _) (by omega))) allc_nil)))))) rfl) ?_));rintro _ Q0 ⟨X,s⟩;obtain ⟨F0,i0⟩:=Eu E0 X (by omega);have E:=E.updN X (Nb.of J (by omega)) (by omega);have F:=F.updN X (Nb.of R (by omega)) (by omega);have C:Box Q0 b [.int .i64 A.Kind,.int .i64 A.From,.int .i64 A.To,.int .i64 A.Sense,Q,a] 252:=s;refine Ro 3 ?_;obtain rfl:=szs hF;exact NX.end (rs:=[.cell 2 252]) (vs:=[.agg #[.int .i64 A.Kind,.int .i64 A.From,.int .i64 A.To,.int .i64 A.Sense,Q,a]]) rfl ⟨⟨b,rfl,box_load ag_252 cn_252 C⟩,trivial⟩ ⟨_,rfl,_,_,rfl,ownR.baseN (ownR.wideN E (by omega)) (by omega),ownR.baseN (ownR.wideN F (by omega)) (by omega),(No.of R J (by omega)),F0⟩
def F_laws_toArcS_L1 (n:Nat) (a0:List S_Arc) (k0:Int→(List S_Arc)→Option (List S_Arc)):Nat→Int→(List S_Arc)→Option (List S_Arc)
  | 0, _, _=>none
  | m + 1, i19, l20=>(bif decide (i19 < (a0.length:Int)) then (Option.bind (getI a0 i19) fun x22=>(Option.bind (F_laws_toArc n x22) fun r34=>(Option.bind (getI l20 i19) fun x49=>(F_laws_toArcS_L1 n a0 k0 m (IntKind.wrap .i64 (i19 + 1)) ((l20.set (i19).toNat r34)))))) else (k0 i19 l20))
def F_laws_toArcS (n:Nat) (a0:List S_Arc):Option (List S_Arc):=(Option.bind (mkN ((a0.length:Int)) 80) fun n3=>(F_laws_toArcS_L1 n a0 (fun i19 l20=>(some l20)) n 0 (List.replicate n3 ((S_Arc.mk 0 0 0 0 (([]:List S_Table)) (([]:List S_Table)))))))
theorem W_laws_toArcS {n:Nat} {I:List S_Arc} {r:List S_Arc} {w:World} {R:Value} {H:Nat} (hF:F_laws_toArcS n I = some r) (hH:H ≤ w.heap.size) (J:slRep C_Arc w (Iv 0 H) I R) :
    Calls Tryz.prog 221 [R].toArray w (Ret fun u T => ∃ Q,u = Q∧ownR C_Arc T w.heap.size (SX w.heap.size T.heap.size Q) 252 r Q∧Ext w T):=by
  refine calls_ofD Tryz.func221 rfl Tryz.ntmps221 ?_;have V:Ext w w:=Ext.refl w;unfold F_laws_toArcS at hF;refine Rc 8 (Yl rfl (yle rfl Tryz.underlying262 (J.oh hH V)) ?_);obtain ⟨y,j,hF⟩:=bsome hF;refine Ef rfl (eff_make (c:=C_Arc) (z:=(S_Arc.mk 0 0 0 0 (([]:List S_Table)) (([]:List S_Table)))) rfl Tryz.underlying158 in_252 rfl rfl rfl j rfl rfl (fun _ => C_Arc_mk (slRep.nil _ _ _) (slRep.nil _ _ _))) ?_;rintro S F0 ⟨U,P,K0,P0,v,M⟩;obtain ⟨f,Q0⟩:=Et V v;have M:=ownR.toN M P;have K:=bd_of P;clear P;refine Ro 10 ?_;refine WC.loopD (fun D a wl => ∃ (A:Int) (B:List S_Arc),Kn 23 [(0,R),(3,S),(4,.int .i64 A)] a∧Ext w wl∧F0.heap.size ≤ wl.heap.size∧ownR C_Arc wl (U) (SX (U) wl.heap.size S) 252 B S∧F_laws_toArcS_L1 n I (fun A B => (some B)) D A B = some r) n ?_ ?_
  · intro a hK;exact ⟨0,(List.replicate y ((S_Arc.mk 0 0 0 0 (([]:List S_Table)) (([]:List S_Table))))),hK.sub rfl,f,Nat.le_refl _,(ownR.wideN M (by omega)),hF⟩
  · rintro D a Z0 ⟨A,B,hK,E,R0,F,hF⟩;revert a;change WC _ _ _ _ _ _
    cases D with
    | zero => exact nos hF
    | succ D =>
      rw [F_laws_toArcS_L1.eq_2] at hF;refine Rc 5 (Yl rfl (yle rfl Tryz.underlying262 (J.oh hH E)) (Ro 3 (Wc rfl hF ?_ ?_)))
      · intro hF;refine Rc 9 ?_;obtain ⟨G,x,hF⟩:=bsome hF;refine Ye rfl (yix rfl Tryz.underlying262 cn_327 (J.oh hH E) x) ?_;rintro _ ⟨G0,U0,V0,rfl,L0,l,b⟩;obtain ⟨A0,B0,rfl,p,q⟩:=C_Arc_open l;refine Yl rfl (yln (us:=[.int .i64 G.Kind,.int .i64 G.From,.int .i64 G.To,.int .i64 G.Sense,A0,B0]) rfl ag_327 b cn_327) ?_;obtain ⟨C,m,hF⟩:=bsome hF;refine Ef rfl (eca rfl gf_246 (W_laws_toArc m (by omega) p q :)) ?_;rintro _ E0 ⟨C0,D0,rfl,N,O,M0,Y⟩;obtain ⟨g,S0⟩:=Et E Y;have F:=F.extN Y (by omega);have I0:=ownR.blk N;have J0:=ownR.blk O;obtain ⟨b0,Z,hF⟩:=bsome hF;have X:=ownR.wideN (hi':=E0.heap.size) F (by omega);refine Ye rfl (yio rfl Tryz.underlying158 cn_252 X Z) ?_;rintro _ ⟨H0,W0,rfl,L,W,d⟩;have o:=W;obtain ⟨X0,Y0,rfl,N0,O0⟩:=C_Arc_open W;refine Ef rfl (eff_store_own (c:=C_Arc) (us':=[.int .i64 C.Kind,.int .i64 C.From,.int .i64 C.To,.int .i64 C.Sense,C0,D0]) (y':=C) 0 _ rfl rfl rfl X L Z rfl cn_252 (allc_cons rfl (allc_cons rfl (allc_cons rfl (allc_cons rfl (allc_cons (slRep.one (ownR.slN N (Nat.le_refl _) (Nat.le_refl _) (by omega))) (allc_cons (slRep.one (ownR.slN O (Nat.le_refl _) (Nat.le_refl _) (by omega))) allc_nil)))))) o d rfl rfl (C_Arc_mk ((ownR.slN N (Nat.le_refl _) (Nat.le_refl _) (by omega)).mono (fun k h => ⟨by have:=h.1;omega,by have:=h.2;omega,fun e => by have:=K k e;have:=h.1;have:=h.2;omega⟩) (fun _ _ => rfl)) ((ownR.slN O (Nat.le_refl _) (Nat.le_refl _) (by omega)).mono (fun k h => ⟨by have:=h.1;omega,by have:=h.2;omega,fun e => by have:=K k e;have:=h.1;have:=h.2;omega⟩) (fun _ _ => rfl))) (fun k h e => h.2.2 (e ▸ L))) ?_;rintro _ a0 ⟨t,s⟩;obtain ⟨i,T0⟩:=Eu g t (by have:=K _ L;omega);refine Ro 9 ?_;intro a hK;exact ⟨D,Nat.le.refl,(IntKind.wrap .i64 (A + 1)),((B.set (A).toNat C)),hK.sub rfl,i,(by omega),(ownR.wideN s (by omega)),hF⟩
      · intro hF;refine Rc 12 ?_;obtain rfl:=szs hF;exact Ne rfl rfl ⟨_,rfl,_,rfl,ownR.baseN (ownR.wideN F (by omega)) (by omega),E⟩
def F_laws_toCell (n:Nat) (a0:S_Cell):Option S_Cell:=(Option.bind (F_laws_toPinS n a0.Pins) fun r38=>(Option.bind (F_laws_toArcS n a0.Arcs) fun r53=>(Option.bind (F_laws_toInt64S n a0.Truth) fun r68=>(some ((S_Cell.mk a0.Name a0.Kind r38 r53 r68 a0.Leak a0.Energy))))))
theorem W_laws_toCell {n:Nat} {A:S_Cell} {r:S_Cell} {w:World} {f:Value} {h:Value} {i:Value} {H:Nat} (hF:F_laws_toCell n A = some r) (hH:H ≤ w.heap.size) (s:slRep C_Pin w (Iv 0 H) A.Pins f) (t:slRep C_Arc w (Iv 0 H) A.Arcs h) (v:slRep (cInt .i64) w (Iv 0 H) A.Truth i) :
    Calls Tryz.prog 181 [.agg #[.string A.Name,.int .i64 A.Kind,f,h,i,.int .i64 A.Leak,.int .i64 A.Energy]].toArray w (Ret fun u W => ∃ a U b,u = .agg #[.string r.Name,.int .i64 r.Kind,a,U,b,.int .i64 r.Leak,.int .i64 r.Energy]∧ownR C_Pin W w.heap.size (Iv 0 0) 307 r.Pins a∧ownR C_Arc W w.heap.size (SX w.heap.size W.heap.size U) 252 r.Arcs U∧ownR (cInt .i64) W w.heap.size (Iv 0 0) 2 r.Truth b∧(∀ g q,U.ownBlock = some g → a.ownBlock = some q → g ≠ q)∧(∀ g q,b.ownBlock = some g → a.ownBlock = some q → g ≠ q)∧(∀ g q,b.ownBlock = some g → U.ownBlock = some q → g ≠ q)∧Ext w W):=by
  refine calls_ofD Tryz.func181 rfl Tryz.ntmps181 ?_;have F0:Ext w w:=Ext.refl w;unfold F_laws_toCell at hF;refine Rc 2 (Ef rfl (eff_box rfl rfl) ?_);rintro _ a0 ⟨p,rfl,i0,j0,R0,B⟩;have B:Box a0 p [.string A.Name,.int .i64 A.Kind,f,h,i,.int .i64 A.Leak,.int .i64 A.Energy] 264:=B;obtain ⟨G0,k0⟩:=Et F0 R0;refine Ef rfl (eff_alloc rfl zn_160) ?_;rintro _ B1 ⟨j,rfl,e0,f0,o,C⟩;obtain ⟨H0,l0⟩:=Et G0 o;have B:=B.ext o;refine Ro 4 (Ef rfl (eff_alloc rfl zn_160) ?_);rintro _ C1 ⟨J,rfl,g0,h0,c,D⟩;obtain ⟨I0,m0⟩:=Et H0 c;have B:=B.ext c;have C:=C.ext c;refine Ro 4 (Yl rfl (yfa rfl fo_264_0) (Yl rfl (ylb rfl ag_9 B rfl) (Yl rfl (yfa rfl fo_160_0) (Ef rfl (est rfl D cn_9 rfl rfl) ?_))));rintro _ V0 ⟨d,x⟩;obtain ⟨J0,n0⟩:=Eu I0 d (by omega);have B:=B.upd d (by omega);have C:=C.upd d (by omega);have D:Box V0 J [.string A.Name,.int .i64 0,.slice none 0 0,.slice none 0 0,.slice none 0 0,.int .i64 0,.int .i64 0] 160:=x;refine Ro 4 (Yl rfl (yfa rfl fo_264_1) (Yl rfl (ylb rfl ag_2 B rfl) (Yl rfl (yfa rfl fo_160_1) (Ef rfl (est rfl D cn_2 rfl rfl) ?_))));rintro _ W0 ⟨e,y⟩;obtain ⟨k,o0⟩:=Eu J0 e (by omega);have B:=B.upd e (by omega);have C:=C.upd e (by omega);have D:Box W0 J [.string A.Name,.int .i64 A.Kind,.slice none 0 0,.slice none 0 0,.slice none 0 0,.int .i64 0,.int .i64 0] 160:=y;refine Ro 4 (Yl rfl (yfa rfl fo_264_2) (Yl rfl (ylb rfl ag_261 B rfl) ?_));obtain ⟨y0,S0,hF⟩:=bsome hF;refine Ef rfl (eca rfl gf_220 (W_laws_toPinS S0 (by omega) (s.oh hH k) :)) ?_;rintro L D1 ⟨_,rfl,E,Z⟩;obtain ⟨K0,p0⟩:=Et k Z;have B:=B.ext Z;have C:=C.ext Z;have D:=D.ext Z;have I:=ownR.blk E;refine Yl rfl (yfa rfl fo_160_2) (Ef rfl (eff_store1 rfl rfl rfl D cn_157 (slRep.cells (ownR.slf E (Nat.le_refl _) (Nat.le_refl _))) (slRep.one (ownR.slf E (Nat.le_refl _) (Nat.le_refl _))) rfl) ?_);rintro _ X0 ⟨X,z⟩;obtain ⟨l,q0⟩:=Eu K0 X (by omega);have B:=B.upd X (by omega);have C:=C.upd X (by omega);have E:=E.upd X (Nb.of I (by omega));have D:Box X0 J [.string A.Name,.int .i64 A.Kind,L,.slice none 0 0,.slice none 0 0,.int .i64 0,.int .i64 0] 160:=z;refine Ro 4 (Yl rfl (yfa rfl fo_264_3) (Yl rfl (ylb rfl ag_262 B rfl) ?_));obtain ⟨z0,T0,hF⟩:=bsome hF;refine Ef rfl (eca rfl gf_221 (W_laws_toArcS T0 (by omega) (t.oh hH l) :)) ?_;rintro Q E1 ⟨_,rfl,F,T⟩;obtain ⟨L0,r0⟩:=Et l T;have B:=B.ext T;have C:=C.ext T;have D:=D.ext T;have E:=E.ext T;have K:=ownR.blk F;refine Yl rfl (yfa rfl fo_160_3) (Ef rfl (eff_store1 rfl rfl rfl D cn_158 (slRep.cells (ownR.slN F (Nat.le_refl _) (Nat.le_refl _) (by omega))) (slRep.one (ownR.slN F (Nat.le_refl _) (Nat.le_refl _) (by omega))) rfl) ?_);rintro _ Y0 ⟨R,A0⟩;obtain ⟨m,s0⟩:=Eu L0 R (by omega);have B:=B.upd R (by omega);have C:=C.upd R (by omega);have E:=E.upd R (Nb.of I (by omega));have F:=F.updN R (Nb.of K (by omega)) (by omega);have D:Box Y0 J [.string A.Name,.int .i64 A.Kind,L,Q,.slice none 0 0,.int .i64 0,.int .i64 0] 160:=A0;refine Ro 4 (Yl rfl (yfa rfl fo_264_4) (Yl rfl (ylb rfl ag_75 B rfl) ?_));obtain ⟨A1,U0,hF⟩:=bsome hF;refine Ef rfl (eca rfl gf_33 (W_laws_toInt64S U0 (by omega) (v.oh hH m) :)) ?_;rintro V F1 ⟨_,rfl,G,P⟩;obtain ⟨M0,t0⟩:=Et m P;have B:=B.ext P;have C:=C.ext P;have D:=D.ext P;have E:=E.ext P;have F:=F.extN P (by omega);have M:=ownR.blk G;refine Yl rfl (yfa rfl fo_160_4) (Ef rfl (eff_store1 rfl rfl rfl D cn_75 (slRep.cells (ownR.slf G (Nat.le_refl _) (Nat.le_refl _))) (slRep.one (ownR.slf G (Nat.le_refl _) (Nat.le_refl _))) rfl) ?_);rintro _ Z0 ⟨N,B0⟩;obtain ⟨N0,u0⟩:=Eu M0 N (by omega);have B:=B.upd N (by omega);have C:=C.upd N (by omega);have E:=E.upd N (Nb.of I (by omega));have F:=F.updN N (Nb.of K (by omega)) (by omega);have G:=G.upd N (Nb.of M (by omega));have D:Box Z0 J [.string A.Name,.int .i64 A.Kind,L,Q,V,.int .i64 0,.int .i64 0] 160:=B0;refine Ro 4 (Yl rfl (yfa rfl fo_264_5) (Yl rfl (ylb rfl ag_2 B rfl) (Yl rfl (yfa rfl fo_160_5) (Ef rfl (est rfl D cn_2 rfl rfl) ?_))));rintro _ b0 ⟨O,C0⟩;obtain ⟨O0,v0⟩:=Eu N0 O (by omega);have B:=B.upd O (by omega);have C:=C.upd O (by omega);have E:=E.upd O (Nb.of I (by omega));have F:=F.updN O (Nb.of K (by omega)) (by omega);have G:=G.upd O (Nb.of M (by omega));have D:Box b0 J [.string A.Name,.int .i64 A.Kind,L,Q,V,.int .i64 A.Leak,.int .i64 0] 160:=C0;refine Ro 4 (Yl rfl (yfa rfl fo_264_6) (Yl rfl (ylb rfl ag_2 B rfl) (Yl rfl (yfa rfl fo_160_6) (Ef rfl (est rfl D cn_2 rfl rfl) ?_))));rintro _ c0 ⟨S,D0⟩;obtain ⟨P0,w0⟩:=Eu O0 S (by omega);have C:=C.upd S (by omega);have E:=E.upd S (Nb.of I (by omega));have F:=F.updN S (Nb.of K (by omega)) (by omega);have G:=G.upd S (Nb.of M (by omega));have D:Box c0 J [.string A.Name,.int .i64 A.Kind,L,Q,V,.int .i64 A.Leak,.int .i64 A.Energy] 160:=D0;refine Ro 4 (Yl rfl (ynb rfl ag_160 D cn_160) (Ef rfl (est rfl C cn_160 (allc_cons rfl (allc_cons rfl (allc_cons (slRep.one (ownR.slf E (Nat.le_refl _) (Nat.le_refl _))) (allc_cons (slRep.one (ownR.slN F (Nat.le_refl _) (Nat.le_refl _) (by omega))) (allc_cons (slRep.one (ownR.slf G (Nat.le_refl _) (Nat.le_refl _))) (allc_cons rfl (allc_cons rfl allc_nil))))))) rfl) ?_));rintro _ d0 ⟨Y,E0⟩;obtain ⟨Q0,x0⟩:=Eu P0 Y (by omega);have E:=E.upd Y (Nb.of I (by omega));have F:=F.updN Y (Nb.of K (by omega)) (by omega);have G:=G.upd Y (Nb.of M (by omega));have C:Box d0 j [.string A.Name,.int .i64 A.Kind,L,Q,V,.int .i64 A.Leak,.int .i64 A.Energy] 160:=E0;refine Ro 3 ?_;obtain rfl:=szs hF;exact NX.end (rs:=[.cell 2 160]) (vs:=[.agg #[.string A.Name,.int .i64 A.Kind,L,Q,V,.int .i64 A.Leak,.int .i64 A.Energy]]) rfl ⟨⟨j,rfl,box_load ag_160 cn_160 C⟩,trivial⟩ ⟨_,rfl,_,_,_,rfl,ownR.base E (by omega),ownR.baseN (ownR.wideN F (by omega)) (by omega),ownR.base G (by omega),(No.of K I (by omega)),(No.of M I (by omega)),(No.of M K (by omega)),Q0⟩
def F_laws_toCellS_L1 (n:Nat) (a0:List S_Cell) (k0:Int→(List S_Cell)→Option (List S_Cell)):Nat→Int→(List S_Cell)→Option (List S_Cell)
  | 0, _, _=>none
  | m + 1, i19, l20=>(bif decide (i19 < (a0.length:Int)) then (Option.bind (getI a0 i19) fun x22=>(Option.bind (F_laws_toCell n x22) fun r36=>(Option.bind (getI l20 i19) fun x57=>(F_laws_toCellS_L1 n a0 k0 m (IntKind.wrap .i64 (i19 + 1)) ((l20.set (i19).toNat r36)))))) else (k0 i19 l20))
def F_laws_toCellS (n:Nat) (a0:List S_Cell):Option (List S_Cell):=(Option.bind (mkN ((a0.length:Int)) 112) fun n3=>(F_laws_toCellS_L1 n a0 (fun i19 l20=>(some l20)) n 0 (List.replicate n3 ((S_Cell.mk ByteArray.empty 0 (([]:List S_Pin)) (([]:List S_Arc)) (([]:List Int)) 0 0)))))
theorem W_laws_toCellS {n:Nat} {J:List S_Cell} {r:List S_Cell} {w:World} {S:Value} {H:Nat} (hF:F_laws_toCellS n J = some r) (hH:H ≤ w.heap.size) (K:slRep C_Cell w (Iv 0 H) J S) :
    Calls Tryz.prog 127 [S].toArray w (Ret fun u U => ∃ R,u = R∧ownR C_Cell U w.heap.size (SX w.heap.size U.heap.size R) 160 r R∧Ext w U):=by
  refine calls_ofD Tryz.func127 rfl Tryz.ntmps127 ?_;have W:Ext w w:=Ext.refl w;unfold F_laws_toCellS at hF;refine Rc 8 (Yl rfl (yle rfl Tryz.underlying22 (K.oh hH W)) ?_);obtain ⟨B0,l,hF⟩:=bsome hF;refine Ef rfl (eff_make (c:=C_Cell) (z:=(S_Cell.mk ByteArray.empty 0 (([]:List S_Pin)) (([]:List S_Arc)) (([]:List Int)) 0 0)) rfl Tryz.underlying37 in_160 rfl rfl rfl l rfl rfl (fun _ => C_Cell_mk (slRep.nil _ _ _) (slRep.nil _ _ _) (slRep.nil _ _ _))) ?_;rintro T J0 ⟨V,Q,P0,X0,y,M⟩;obtain ⟨g,Y0⟩:=Et W y;have M:=ownR.toN M Q;have E:=bd_of Q;clear Q;refine Ro 10 ?_;refine WC.loopD (fun D a wl => ∃ (A:Int) (B:List S_Cell),Kn 23 [(0,S),(3,T),(4,.int .i64 A)] a∧Ext w wl∧J0.heap.size ≤ wl.heap.size∧ownR C_Cell wl (V) (SX (V) wl.heap.size T) 160 B T∧F_laws_toCellS_L1 n J (fun A B => (some B)) D A B = some r) n ?_ ?_
  · intro a hK;exact ⟨0,(List.replicate B0 ((S_Cell.mk ByteArray.empty 0 (([]:List S_Pin)) (([]:List S_Arc)) (([]:List Int)) 0 0))),hK.sub rfl,g,Nat.le_refl _,(ownR.wideN M (by omega)),hF⟩
  · rintro D a i0 ⟨A,B,hK,F,Z0,G,hF⟩;revert a;change WC _ _ _ _ _ _
    cases D with
    | zero => exact nos hF
    | succ D =>
      rw [F_laws_toCellS_L1.eq_2] at hF;refine Rc 5 (Yl rfl (yle rfl Tryz.underlying22 (K.oh hH F)) (Ro 3 (Wc rfl hF ?_ ?_)))
      · intro hF;refine Rc 9 ?_;obtain ⟨I,A0,hF⟩:=bsome hF;refine Ye rfl (yix rfl Tryz.underlying22 cn_264 (K.oh hH F) A0) ?_;rintro _ ⟨K0,c0,d0,rfl,Q0,m,d⟩;obtain ⟨C0,D0,E0,rfl,q,s,t⟩:=C_Cell_open m;refine Yl rfl (yln (us:=[.string I.Name,.int .i64 I.Kind,C0,D0,E0,.int .i64 I.Leak,.int .i64 I.Energy]) rfl ag_264 d cn_264) ?_;obtain ⟨C,o,hF⟩:=bsome hF;refine Ef rfl (eca rfl gf_181 (W_laws_toCell o (by omega) q s t :)) ?_;rintro _ I0 ⟨F0,G0,H0,rfl,N,O,P,R0,S0,T0,Z⟩;obtain ⟨i,a0⟩:=Et F Z;have G:=G.extN Z (by omega);have M0:=ownR.blk N;have N0:=ownR.blk O;have O0:=ownR.blk P;obtain ⟨k0,b,hF⟩:=bsome hF;have Y:=ownR.wideN (hi':=I0.heap.size) G (by omega);refine Ye rfl (yio rfl Tryz.underlying37 cn_160 Y b) ?_;rintro _ ⟨L0,e0,rfl,L,X,f⟩;have p:=X;obtain ⟨f0,g0,h0,rfl,U0,V0,W0⟩:=C_Cell_open X;refine Ef rfl (eff_store_own (c:=C_Cell) (us':=[.string C.Name,.int .i64 C.Kind,F0,G0,H0,.int .i64 C.Leak,.int .i64 C.Energy]) (y':=C) 0 _ rfl rfl rfl Y L b rfl cn_160 (allc_cons rfl (allc_cons rfl (allc_cons (slRep.one (ownR.slf N (Nat.le_refl _) (Nat.le_refl _))) (allc_cons (slRep.one (ownR.slN O (Nat.le_refl _) (Nat.le_refl _) (by omega))) (allc_cons (slRep.one (ownR.slf P (Nat.le_refl _) (Nat.le_refl _))) (allc_cons rfl (allc_cons rfl allc_nil))))))) p f rfl rfl (C_Cell_mk ((ownR.slf N (Nat.le_refl _) (Nat.le_refl _)).mono (fun k h => ⟨by have:=h.1;omega,by have:=h.2;omega,fun e => by have:=E k e;have:=h.1;have:=h.2;omega⟩) (fun _ _ => rfl)) ((ownR.slN O (Nat.le_refl _) (Nat.le_refl _) (by omega)).mono (fun k h => ⟨by have:=h.1;omega,by have:=h.2;omega,fun e => by have:=E k e;have:=h.1;have:=h.2;omega⟩) (fun _ _ => rfl)) ((ownR.slf P (Nat.le_refl _) (Nat.le_refl _)).mono (fun k h => ⟨by have:=h.1;omega,by have:=h.2;omega,fun e => by have:=E k e;have:=h.1;have:=h.2;omega⟩) (fun _ _ => rfl))) (fun k h e => h.2.2 (e ▸ L))) ?_;rintro _ j0 ⟨x,v⟩;obtain ⟨j,b0⟩:=Eu i x (by have:=E _ L;omega);refine Ro 9 ?_;intro a hK;exact ⟨D,Nat.le.refl,(IntKind.wrap .i64 (A + 1)),((B.set (A).toNat C)),hK.sub rfl,j,(by omega),(ownR.wideN v (by omega)),hF⟩
      · intro hF;refine Rc 12 ?_;obtain rfl:=szs hF;exact Ne rfl rfl ⟨_,rfl,_,rfl,ownR.baseN (ownR.wideN G (by omega)) (by omega),F⟩
def F_laws_toLibrary (n:Nat) (a0:S_Library):Option S_Library:=(Option.bind (F_laws_toCellS n a0.Cells) fun r24=>(some ((S_Library.mk r24))))
theorem W_laws_toLibrary {n:Nat} {M:S_Library} {r:S_Library} {w:World} {J:Value} {H:Nat} (hF:F_laws_toLibrary n M = some r) (hH:H ≤ w.heap.size) (U:slRep C_Cell w (Iv 0 H) M.Cells J) :
    Calls Tryz.prog 60 [.agg #[J]].toArray w (Ret fun u L => ∃ I,u = .agg #[I]∧ownR C_Cell L w.heap.size (SX w.heap.size L.heap.size I) 160 r.Cells I∧Ext w L):=by
  refine calls_ofD Tryz.func60 rfl Tryz.ntmps60 ?_;have X:Ext w w:=Ext.refl w;unfold F_laws_toLibrary at hF;refine Rc 2 (Ef rfl (eff_box rfl rfl) ?_);rintro _ h ⟨T,rfl,m,o,d,C⟩;have C:Box h T [J] 24:=C;obtain ⟨c,x⟩:=Et X d;refine Ef rfl (eff_alloc rfl zn_39) ?_;rintro _ z ⟨N,rfl,i,j,Q,A⟩;obtain ⟨Y,p⟩:=Et c Q;have C:=C.ext Q;refine Ro 4 (Ef rfl (eff_alloc rfl zn_39) ?_);rintro _ A0 ⟨S,rfl,k,l,E,D⟩;obtain ⟨P,q⟩:=Et Y E;have C:=C.ext E;have A:=A.ext E;refine Ro 4 (Yl rfl (yfa rfl fo_24_0) (Yl rfl (ylb rfl ag_22 C rfl) ?_));obtain ⟨y,e,hF⟩:=bsome hF;refine Ef rfl (eca rfl gf_127 (W_laws_toCellS e (by omega) (U.oh hH P) :)) ?_;rintro K B0 ⟨_,rfl,B,G⟩;obtain ⟨Z,s⟩:=Et P G;have A:=A.ext G;have D:=D.ext G;have O:=ownR.blk B;refine Yl rfl (yfa rfl fo_39_0) (Ef rfl (eff_store1 rfl rfl rfl D cn_37 (slRep.cells (ownR.slN B (Nat.le_refl _) (Nat.le_refl _) (by omega))) (slRep.one (ownR.slN B (Nat.le_refl _) (Nat.le_refl _) (by omega))) rfl) ?_);rintro _ f ⟨F,V⟩;obtain ⟨a,t⟩:=Eu Z F (by omega);have A:=A.upd F (by omega);have B:=B.updN F (Nb.of O (by omega)) (by omega);have D:Box f S [K] 39:=V;refine Ro 4 (Yl rfl (ynb rfl ag_39 D cn_39) (Ef rfl (est rfl A cn_39 (allc_cons (slRep.one (ownR.slN B (Nat.le_refl _) (Nat.le_refl _) (by omega))) allc_nil) rfl) ?_));rintro _ g ⟨R,W⟩;obtain ⟨b,v⟩:=Eu a R (by omega);have B:=B.updN R (Nb.of O (by omega)) (by omega);have A:Box g N [K] 39:=W;refine Ro 3 ?_;obtain rfl:=szs hF;exact NX.end (rs:=[.cell 2 39]) (vs:=[.agg #[K]]) rfl ⟨⟨N,rfl,box_load ag_39 cn_39 A⟩,trivial⟩ ⟨_,rfl,_,rfl,ownR.baseN (ownR.wideN B (by omega)) (by omega),b⟩
def F_laws_toInstance (n:Nat) (a0:S_Instance):Option S_Instance:=(Option.bind (F_laws_toInt64S n a0.Nets) fun r34=>(some ((S_Instance.mk a0.Name a0.Cell r34))))
theorem W_laws_toInstance {n:Nat} {A:S_Instance} {r:S_Instance} {w:World} {M:Value} {H:Nat} (hF:F_laws_toInstance n A = some r) (hH:H ≤ w.heap.size) (W:slRep (cInt .i64) w (Iv 0 H) A.Nets M) :
    Calls Tryz.prog 182 [.agg #[.string A.Name,.int .i64 A.Cell,M]].toArray w (Ret fun u U => ∃ T,u = .agg #[.string r.Name,.int .i64 r.Cell,T]∧ownR (cInt .i64) U w.heap.size (Iv 0 0) 2 r.Nets T∧Ext w U):=by
  refine calls_ofD Tryz.func182 rfl Tryz.ntmps182 ?_;have b:Ext w w:=Ext.refl w;unfold F_laws_toInstance at hF;refine Rc 2 (Ef rfl (eff_box rfl rfl) ?_);rintro _ o ⟨V,rfl,y,z,j,C⟩;have C:Box o V [.string A.Name,.int .i64 A.Cell,M] 266:=C;obtain ⟨i,H0⟩:=Et b j;refine Ef rfl (eff_alloc rfl zn_162) ?_;rintro _ J0 ⟨O,rfl,s,t,R,B⟩;obtain ⟨c,A0⟩:=Et i R;have C:=C.ext R;refine Ro 4 (Ef rfl (eff_alloc rfl zn_162) ?_);rintro _ K0 ⟨F,rfl,v,x,G,D⟩;obtain ⟨d,B0⟩:=Et c G;have C:=C.ext G;have B:=B.ext G;refine Ro 4 (Yl rfl (yfa rfl fo_266_0) (Yl rfl (ylb rfl ag_9 C rfl) (Yl rfl (yfa rfl fo_162_0) (Ef rfl (est rfl D cn_9 rfl rfl) ?_))));rintro _ l ⟨I,X⟩;obtain ⟨e,C0⟩:=Eu d I (by omega);have C:=C.upd I (by omega);have B:=B.upd I (by omega);have D:Box l F [.string A.Name,.int .i64 0,.slice none 0 0] 162:=X;refine Ro 4 (Yl rfl (yfa rfl fo_266_1) (Yl rfl (ylb rfl ag_2 C rfl) (Yl rfl (yfa rfl fo_162_1) (Ef rfl (est rfl D cn_2 rfl rfl) ?_))));rintro _ m ⟨J,Y⟩;obtain ⟨Q,D0⟩:=Eu e J (by omega);have C:=C.upd J (by omega);have B:=B.upd J (by omega);have D:Box m F [.string A.Name,.int .i64 A.Cell,.slice none 0 0] 162:=Y;refine Ro 4 (Yl rfl (yfa rfl fo_266_2) (Yl rfl (ylb rfl ag_75 C rfl) ?_));obtain ⟨I0,k,hF⟩:=bsome hF;refine Ef rfl (eca rfl gf_33 (W_laws_toInt64S k (by omega) (W.oh hH Q) :)) ?_;rintro N L0 ⟨_,rfl,E,L⟩;obtain ⟨f,E0⟩:=Et Q L;have B:=B.ext L;have D:=D.ext L;have P:=ownR.blk E;refine Yl rfl (yfa rfl fo_162_2) (Ef rfl (eff_store1 rfl rfl rfl D cn_75 (slRep.cells (ownR.slf E (Nat.le_refl _) (Nat.le_refl _))) (slRep.one (ownR.slf E (Nat.le_refl _) (Nat.le_refl _))) rfl) ?_);rintro _ p ⟨K,Z⟩;obtain ⟨g,F0⟩:=Eu f K (by omega);have B:=B.upd K (by omega);have E:=E.upd K (Nb.of P (by omega));have D:Box p F [.string A.Name,.int .i64 A.Cell,N] 162:=Z;refine Ro 4 (Yl rfl (ynb rfl ag_162 D cn_162) (Ef rfl (est rfl B cn_162 (allc_cons rfl (allc_cons rfl (allc_cons (slRep.one (ownR.slf E (Nat.le_refl _) (Nat.le_refl _))) allc_nil))) rfl) ?_));rintro _ q ⟨S,a⟩;obtain ⟨h,G0⟩:=Eu g S (by omega);have E:=E.upd S (Nb.of P (by omega));have B:Box q O [.string A.Name,.int .i64 A.Cell,N] 162:=a;refine Ro 3 ?_;obtain rfl:=szs hF;exact NX.end (rs:=[.cell 2 162]) (vs:=[.agg #[.string A.Name,.int .i64 A.Cell,N]]) rfl ⟨⟨O,rfl,box_load ag_162 cn_162 B⟩,trivial⟩ ⟨_,rfl,_,rfl,ownR.base E (by omega),h⟩
def F_laws_toInstanceS_L1 (n:Nat) (a0:List S_Instance) (k0:Int→(List S_Instance)→Option (List S_Instance)):Nat→Int→(List S_Instance)→Option (List S_Instance)
  | 0, _, _=>none
  | m + 1, i19, l20=>(bif decide (i19 < (a0.length:Int)) then (Option.bind (getI a0 i19) fun x22=>(Option.bind (F_laws_toInstance n x22) fun r32=>(Option.bind (getI l20 i19) fun x42=>(F_laws_toInstanceS_L1 n a0 k0 m (IntKind.wrap .i64 (i19 + 1)) ((l20.set (i19).toNat r32)))))) else (k0 i19 l20))
def F_laws_toInstanceS (n:Nat) (a0:List S_Instance):Option (List S_Instance):=(Option.bind (mkN ((a0.length:Int)) 48) fun n3=>(F_laws_toInstanceS_L1 n a0 (fun i19 l20=>(some l20)) n 0 (List.replicate n3 ((S_Instance.mk ByteArray.empty 0 (([]:List Int)))))))
theorem W_laws_toInstanceS {n:Nat} {G:List S_Instance} {r:List S_Instance} {w:World} {O:Value} {H:Nat} (hF:F_laws_toInstanceS n G = some r) (hH:H ≤ w.heap.size) (I:slRep C_Instance w (Iv 0 H) G O) :
    Calls Tryz.prog 128 [O].toArray w (Ret fun u Q => ∃ N,u = N∧ownR C_Instance Q w.heap.size (SX w.heap.size Q.heap.size N) 162 r N∧Ext w Q):=by
  refine calls_ofD Tryz.func128 rfl Tryz.ntmps128 ?_;have T:Ext w w:=Ext.refl w;unfold F_laws_toInstanceS at hF;refine Rc 8 (Yl rfl (yle rfl Tryz.underlying25 (I.oh hH T)) ?_);obtain ⟨v,i,hF⟩:=bsome hF;refine Ef rfl (eff_make (c:=C_Instance) (z:=(S_Instance.mk ByteArray.empty 0 (([]:List Int)))) rfl Tryz.underlying40 in_162 rfl rfl rfl i rfl rfl (fun _ => C_Instance_mk (slRep.nil _ _ _))) ?_;rintro P B0 ⟨R,M,F0,I0,s,K⟩;obtain ⟨d,J0⟩:=Et T s;have K:=ownR.toN K M;have S:=bd_of M;clear M;refine Ro 10 ?_;refine WC.loopD (fun C a wl => ∃ (A:Int) (B:List S_Instance),Kn 23 [(0,O),(3,P),(4,.int .i64 A)] a∧Ext w wl∧B0.heap.size ≤ wl.heap.size∧ownR C_Instance wl (R) (SX (R) wl.heap.size P) 162 B P∧F_laws_toInstanceS_L1 n G (fun A B => (some B)) C A B = some r) n ?_ ?_
  · intro a hK;exact ⟨0,(List.replicate v ((S_Instance.mk ByteArray.empty 0 (([]:List Int))))),hK.sub rfl,d,Nat.le_refl _,(ownR.wideN K (by omega)),hF⟩
  · rintro C a R0 ⟨A,B,hK,D,K0,E,hF⟩;revert a;change WC _ _ _ _ _ _
    cases C with
    | zero => exact nos hF
    | succ C =>
      rw [F_laws_toInstanceS_L1.eq_2] at hF;refine Rc 5 (Yl rfl (yle rfl Tryz.underlying25 (I.oh hH D)) (Ro 3 (Wc rfl hF ?_ ?_)))
      · intro hF;refine Rc 9 ?_;obtain ⟨Y,t,hF⟩:=bsome hF;refine Ye rfl (yix rfl Tryz.underlying25 cn_266 (I.oh hH D) t) ?_;rintro _ ⟨C0,N0,O0,rfl,G0,j,Z⟩;obtain ⟨x,rfl,o⟩:=C_Instance_open j;refine Yl rfl (yln (us:=[.string Y.Name,.int .i64 Y.Cell,x]) rfl ag_266 Z cn_266) ?_;obtain ⟨F,l,hF⟩:=bsome hF;refine Ef rfl (eca rfl gf_182 (W_laws_toInstance l (by omega) o :)) ?_;rintro _ A0 ⟨y,rfl,L,W⟩;obtain ⟨f,L0⟩:=Et D W;have E:=E.extN W (by omega);have E0:=ownR.blk L;obtain ⟨T0,X,hF⟩:=bsome hF;have V:=ownR.wideN (hi':=A0.heap.size) E (by omega);refine Ye rfl (yio rfl Tryz.underlying40 cn_162 V X) ?_;rintro _ ⟨D0,P0,rfl,J,U,b⟩;have m:=U;obtain ⟨Q0,rfl,H0⟩:=C_Instance_open U;refine Ef rfl (eff_store_own (c:=C_Instance) (us':=[.string F.Name,.int .i64 F.Cell,y]) (y':=F) 0 _ rfl rfl rfl V J X rfl cn_162 (allc_cons rfl (allc_cons rfl (allc_cons (slRep.one (ownR.slf L (Nat.le_refl _) (Nat.le_refl _))) allc_nil))) m b rfl rfl (C_Instance_mk ((ownR.slf L (Nat.le_refl _) (Nat.le_refl _)).mono (fun k h => ⟨by have:=h.1;omega,by have:=h.2;omega,fun e => by have:=S k e;have:=h.1;have:=h.2;omega⟩) (fun _ _ => rfl))) (fun k h e => h.2.2 (e ▸ J))) ?_;rintro _ S0 ⟨q,p⟩;obtain ⟨g,M0⟩:=Eu f q (by have:=S _ J;omega);refine Ro 9 ?_;intro a hK;exact ⟨C,Nat.le.refl,(IntKind.wrap .i64 (A + 1)),((B.set (A).toNat F)),hK.sub rfl,g,(by omega),(ownR.wideN p (by omega)),hF⟩
      · intro hF;refine Rc 12 ?_;obtain rfl:=szs hF;exact Ne rfl rfl ⟨_,rfl,_,rfl,ownR.baseN (ownR.wideN E (by omega)) (by omega),D⟩
def F_laws_toStringS_L1 (a0:List ByteArray) (k0:Int→(List ByteArray)→Option (List ByteArray)):Nat→Int→(List ByteArray)→Option (List ByteArray)
  | 0, _, _=>none
  | m + 1, i19, l20=>(bif decide (i19 < (a0.length:Int)) then (Option.bind (getI a0 i19) fun x22=>(Option.bind (getI l20 i19) fun x30=>(F_laws_toStringS_L1 a0 k0 m (IntKind.wrap .i64 (i19 + 1)) ((l20.set (i19).toNat x22))))) else (k0 i19 l20))
def F_laws_toStringS (n:Nat) (a0:List ByteArray):Option (List ByteArray):=(Option.bind (mkN ((a0.length:Int)) 16) fun n3=>(F_laws_toStringS_L1 a0 (fun i19 l20=>(some l20)) n 0 (List.replicate n3 ByteArray.empty)))
theorem W_laws_toStringS {n:Nat} {E:List ByteArray} {r:List ByteArray} {w:World} {I:Value} {H:Nat} (hF:F_laws_toStringS n E = some r) (hH:H ≤ w.heap.size) (F:slRep cStr w (Iv 0 H) E I) :
    Calls Tryz.prog 129 [I].toArray w (Ret fun u R => ∃ P,u = P∧ownR cStr R w.heap.size (Iv 0 0) 9 r P∧Ext w R):=by
  refine calls_ofD Tryz.func129 rfl Tryz.ntmps129 ?_;have K:Ext w w:=Ext.refl w;unfold F_laws_toStringS at hF;refine Rc 8 (Yl rfl (yle rfl Tryz.underlying26 (F.oh hH K)) ?_);obtain ⟨i,Y,hF⟩:=bsome hF;refine Ef rfl (eff_make (c:=cStr) (z:=ByteArray.empty) rfl Tryz.underlying26 in_9 rfl rfl rfl Y rfl rfl (fun _ => rfl)) ?_;rintro Q j ⟨S,N,o,q,f,b⟩;obtain ⟨W,s⟩:=Et K f;have T:=bd_of N;clear N;refine Ro 10 ?_;refine WC.loopD (fun C a wl => ∃ (A:Int) (B:List ByteArray),Kn 22 [(0,I),(3,Q),(4,.int .i64 A)] a∧Ext w wl∧j.heap.size ≤ wl.heap.size∧ownR cStr wl (S) (Iv 0 0) 9 B Q∧F_laws_toStringS_L1 E (fun A B => (some B)) C A B = some r) n ?_ ?_
  · intro a hK;exact ⟨0,(List.replicate i ByteArray.empty),hK.sub rfl,W,Nat.le_refl _,b,hF⟩
  · rintro C a A0 ⟨A,B,hK,D,t,G,hF⟩;revert a;change WC _ _ _ _ _ _
    cases C with
    | zero => exact nos hF
    | succ C =>
      rw [F_laws_toStringS_L1.eq_2] at hF;refine Rc 5 (Yl rfl (yle rfl Tryz.underlying26 (F.oh hH D)) (Ro 3 (Wc rfl hF ?_ ?_)))
      · intro hF;refine Rc 9 ?_;obtain ⟨J,g,hF⟩:=bsome hF;refine Ye rfl (yix rfl Tryz.underlying26 cn_9 (F.oh hH D) g) ?_;rintro _ ⟨l,x,_,rfl,p,rfl,U⟩;refine Yl rfl (ylc 0 rfl ag_9 U rfl rfl) ?_;obtain ⟨C0,O,hF⟩:=bsome hF;refine Ye rfl (yio rfl Tryz.underlying26 cn_9 G O) ?_;rintro _ ⟨m,y,rfl,L,M,V⟩;have Z:=M;obtain rfl:=M;refine Ef rfl (eff_store_own (c:=cStr) (us':=[.string J]) (y':=J) 0 _ rfl rfl rfl G L O rfl cn_9 rfl Z V rfl rfl rfl (fun k h => absurd h.2 (Nat.not_lt_zero k))) ?_;rintro _ B0 ⟨e,d⟩;obtain ⟨X,v⟩:=Eu D e (by have:=T _ L;omega);refine Ro 9 ?_;intro a hK;exact ⟨C,Nat.le.refl,(IntKind.wrap .i64 (A + 1)),((B.set (A).toNat J)),hK.sub rfl,X,(by omega),d,hF⟩
      · intro hF;refine Rc 12 ?_;obtain rfl:=szs hF;exact Ne rfl rfl ⟨_,rfl,_,rfl,ownR.base G (by omega),D⟩
def F_laws_toPort (n:Nat) (a0:S_Port):Option S_Port:=(some a0)
theorem W_laws_toPort {n:Nat} {A:S_Port} {r:S_Port} {w:World} (hF:F_laws_toPort n A = some r) :
    Calls Tryz.prog 183 [.agg #[.string A.Name,.int .i64 A.Dir,.int .i64 A.Net]].toArray w (Ret fun u I => u = .agg #[.string r.Name,.int .i64 r.Dir,.int .i64 r.Net]∧Ext w I):=by
  refine calls_ofD Tryz.func183 rfl Tryz.ntmps183 ?_;have R:Ext w w:=Ext.refl w;unfold F_laws_toPort at hF;refine Rc 2 (Ef rfl (eff_box rfl rfl) ?_);rintro _ I ⟨M,rfl,j,k,Z,B⟩;have B:Box I M [.string A.Name,.int .i64 A.Dir,.int .i64 A.Net] 268:=B;obtain ⟨Y,t⟩:=Et R Z;refine Ef rfl (eff_alloc rfl zn_245) ?_;rintro _ x ⟨J,rfl,f,g,K,C⟩;obtain ⟨S,l⟩:=Et Y K;have B:=B.ext K;refine Ro 4 (Ef rfl (eff_alloc rfl zn_245) ?_);rintro _ v ⟨E,rfl,h,i,F,D⟩;obtain ⟨T,m⟩:=Et S F;have B:=B.ext F;have C:=C.ext F;refine Ro 4 (Yl rfl (yfa rfl fo_268_0) (Yl rfl (ylb rfl ag_9 B rfl) (Yl rfl (yfa rfl fo_245_0) (Ef rfl (est rfl D cn_9 rfl rfl) ?_))));rintro _ b ⟨G,N⟩;obtain ⟨U,o⟩:=Eu T G (by omega);have B:=B.upd G (by omega);have C:=C.upd G (by omega);have D:Box b E [.string A.Name,.int .i64 0,.int .i64 0] 245:=N;refine Ro 4 (Yl rfl (yfa rfl fo_268_1) (Yl rfl (ylb rfl ag_2 B rfl) (Yl rfl (yfa rfl fo_245_1) (Ef rfl (est rfl D cn_2 rfl rfl) ?_))));rintro _ c ⟨H,O⟩;obtain ⟨V,p⟩:=Eu U H (by omega);have B:=B.upd H (by omega);have C:=C.upd H (by omega);have D:Box c E [.string A.Name,.int .i64 A.Dir,.int .i64 0] 245:=O;refine Ro 4 (Yl rfl (yfa rfl fo_268_2) (Yl rfl (ylb rfl ag_2 B rfl) (Yl rfl (yfa rfl fo_245_2) (Ef rfl (est rfl D cn_2 rfl rfl) ?_))));rintro _ d ⟨L,P⟩;obtain ⟨W,q⟩:=Eu V L (by omega);have C:=C.upd L (by omega);have D:Box d E [.string A.Name,.int .i64 A.Dir,.int .i64 A.Net] 245:=P;refine Ro 4 (Yl rfl (ynb rfl ag_245 D cn_245) (Ef rfl (est rfl C cn_245 rfl rfl) ?_));rintro _ e ⟨a,Q⟩;obtain ⟨X,s⟩:=Eu W a (by omega);have C:Box e J [.string A.Name,.int .i64 A.Dir,.int .i64 A.Net] 245:=Q;refine Ro 3 ?_;obtain rfl:=szs hF;exact NX.end (rs:=[.cell 2 245]) (vs:=[.agg #[.string A.Name,.int .i64 A.Dir,.int .i64 A.Net]]) rfl ⟨⟨J,rfl,box_load ag_245 cn_245 C⟩,trivial⟩ ⟨_,rfl,rfl,X⟩
def F_laws_toPortS_L1 (n:Nat) (a0:List S_Port) (k0:Int→(List S_Port)→Option (List S_Port)):Nat→Int→(List S_Port)→Option (List S_Port)
  | 0, _, _=>none
  | m + 1, i19, l20=>(bif decide (i19 < (a0.length:Int)) then (Option.bind (getI a0 i19) fun x22=>(Option.bind (F_laws_toPort n x22) fun r30=>(Option.bind (getI l20 i19) fun x36=>(F_laws_toPortS_L1 n a0 k0 m (IntKind.wrap .i64 (i19 + 1)) ((l20.set (i19).toNat r30)))))) else (k0 i19 l20))
def F_laws_toPortS (n:Nat) (a0:List S_Port):Option (List S_Port):=(Option.bind (mkN ((a0.length:Int)) 32) fun n3=>(F_laws_toPortS_L1 n a0 (fun i19 l20=>(some l20)) n 0 (List.replicate n3 ((S_Port.mk ByteArray.empty 0 0)))))
theorem W_laws_toPortS {n:Nat} {G:List S_Port} {r:List S_Port} {w:World} {J:Value} {H:Nat} (hF:F_laws_toPortS n G = some r) (hH:H ≤ w.heap.size) (I:slRep C_Port w (Iv 0 H) G J) :
    Calls Tryz.prog 130 [J].toArray w (Ret fun u T => ∃ R,u = R∧ownR C_Port T w.heap.size (Iv 0 0) 245 r R∧Ext w T):=by
  refine calls_ofD Tryz.func130 rfl Tryz.ntmps130 ?_;have L:Ext w w:=Ext.refl w;unfold F_laws_toPortS at hF;refine Rc 8 (Yl rfl (yle rfl Tryz.underlying27 (I.oh hH L)) ?_);obtain ⟨p,d,hF⟩:=bsome hF;refine Ef rfl (eff_make (c:=C_Port) (z:=(S_Port.mk ByteArray.empty 0 0)) rfl Tryz.underlying41 in_245 rfl rfl rfl d rfl rfl (fun _ => C_Port_mk)) ?_;rintro S q ⟨U,O,v,y,m,i⟩;obtain ⟨Y,A0⟩:=Et L m;have V:=bd_of O;clear O;refine Ro 10 ?_;refine WC.loopD (fun D a wl => ∃ (A:Int) (B:List S_Port),Kn 23 [(0,J),(3,S),(4,.int .i64 A)] a∧Ext w wl∧q.heap.size ≤ wl.heap.size∧ownR C_Port wl (U) (Iv 0 0) 245 B S∧F_laws_toPortS_L1 n G (fun A B => (some B)) D A B = some r) n ?_ ?_
  · intro a hK;exact ⟨0,(List.replicate p ((S_Port.mk ByteArray.empty 0 0))),hK.sub rfl,Y,Nat.le_refl _,i,hF⟩
  · rintro D a H0 ⟨A,B,hK,F,B0,C,hF⟩;revert a;change WC _ _ _ _ _ _
    cases D with
    | zero => exact nos hF
    | succ D =>
      rw [F_laws_toPortS_L1.eq_2] at hF;refine Rc 5 (Yl rfl (yle rfl Tryz.underlying27 (I.oh hH F)) (Ro 3 (Wc rfl hF ?_ ?_)))
      · intro hF;refine Rc 9 ?_;obtain ⟨K,o,hF⟩:=bsome hF;refine Ye rfl (yix rfl Tryz.underlying27 cn_268 (I.oh hH F) o) ?_;rintro _ ⟨s,E0,F0,rfl,x,e,W⟩;obtain rfl:=C_Port_open e;refine Yl rfl (yln (us:=[.string K.Name,.int .i64 K.Dir,.int .i64 K.Net]) rfl ag_268 W cn_268) ?_;obtain ⟨E,f,hF⟩:=bsome hF;refine Ef rfl (eca rfl gf_183 (W_laws_toPort f :)) ?_;rintro _ I0 ⟨rfl,P⟩;obtain ⟨Z,C0⟩:=Et F P;have C:=C.ext P;obtain ⟨K0,Q,hF⟩:=bsome hF;refine Ye rfl (yio rfl Tryz.underlying41 cn_245 C Q) ?_;rintro _ ⟨t,G0,rfl,M,N,X⟩;have g:=N;obtain rfl:=C_Port_open N;refine Ef rfl (eff_store_own (c:=C_Port) (us':=[.string E.Name,.int .i64 E.Dir,.int .i64 E.Net]) (y':=E) 0 _ rfl rfl rfl C M Q rfl cn_245 rfl g X rfl rfl C_Port_mk (fun k h => absurd h.2 (Nat.not_lt_zero k))) ?_;rintro _ J0 ⟨l,j⟩;obtain ⟨b,D0⟩:=Eu Z l (by have:=V _ M;omega);refine Ro 9 ?_;intro a hK;exact ⟨D,Nat.le.refl,(IntKind.wrap .i64 (A + 1)),((B.set (A).toNat E)),hK.sub rfl,b,(by omega),j,hF⟩
      · intro hF;refine Rc 12 ?_;obtain rfl:=szs hF;exact Ne rfl rfl ⟨_,rfl,_,rfl,ownR.base C (by omega),F⟩
def F_laws_toDesign (n:Nat) (a0:S_Design):Option S_Design:=(Option.bind (F_laws_toInstanceS n a0.Instances) fun r28=>(Option.bind (F_laws_toStringS n a0.Nets) fun r43=>(Option.bind (F_laws_toPortS n a0.Ports) fun r58=>(some ((S_Design.mk r28 r43 r58))))))
theorem W_laws_toDesign {n:Nat} {Q:S_Design} {r:S_Design} {w:World} {a:Value} {b:Value} {c:Value} {H:Nat} (hF:F_laws_toDesign n Q = some r) (hH:H ≤ w.heap.size) (l:slRep C_Instance w (Iv 0 H) Q.Instances a) (m:slRep cStr w (Iv 0 H) Q.Nets b) (o:slRep C_Port w (Iv 0 H) Q.Ports c) :
    Calls Tryz.prog 61 [.agg #[a,b,c]].toArray w (Ret fun u P => ∃ N V W,u = .agg #[N,V,W]∧ownR C_Instance P w.heap.size (SX w.heap.size P.heap.size N) 162 r.Instances N∧ownR cStr P w.heap.size (Iv 0 0) 9 r.Nets V∧ownR C_Port P w.heap.size (Iv 0 0) 245 r.Ports W∧(∀ g q,V.ownBlock = some g → N.ownBlock = some q → g ≠ q)∧(∀ g q,W.ownBlock = some g → N.ownBlock = some q → g ≠ q)∧(∀ g q,W.ownBlock = some g → V.ownBlock = some q → g ≠ q)∧Ext w P):=by
  refine calls_ofD Tryz.func61 rfl Tryz.ntmps61 ?_;have x:Ext w w:=Ext.refl w;unfold F_laws_toDesign at hF;refine Rc 2 (Ef rfl (eff_box rfl rfl) ?_);rintro _ N0 ⟨k,rfl,S0,T0,F0,A⟩;have A:Box N0 k [a,b,c] 29:=A;obtain ⟨y,U0⟩:=Et x F0;refine Ef rfl (eff_alloc rfl zn_43) ?_;rintro _ h0 ⟨e,rfl,O0,P0,j,B⟩;obtain ⟨z,V0⟩:=Et y j;have A:=A.ext j;refine Ro 4 (Ef rfl (eff_alloc rfl zn_43) ?_);rintro _ i0 ⟨Y,rfl,Q0,R0,Z,D⟩;obtain ⟨f,W0⟩:=Et z Z;have A:=A.ext Z;have B:=B.ext Z;refine Ro 4 (Yl rfl (yfa rfl fo_29_0) (Yl rfl (ylb rfl ag_25 A rfl) ?_));obtain ⟨e0,G0,hF⟩:=bsome hF;refine Ef rfl (eca rfl gf_128 (W_laws_toInstanceS G0 (by omega) (l.oh hH f) :)) ?_;rintro O j0 ⟨_,rfl,C,U⟩;obtain ⟨A0,X0⟩:=Et f U;have A:=A.ext U;have B:=B.ext U;have D:=D.ext U;have G:=ownR.blk C;refine Yl rfl (yfa rfl fo_43_0) (Ef rfl (eff_store1 rfl rfl rfl D cn_40 (slRep.cells (ownR.slN C (Nat.le_refl _) (Nat.le_refl _) (by omega))) (slRep.one (ownR.slN C (Nat.le_refl _) (Nat.le_refl _) (by omega))) rfl) ?_);rintro _ J0 ⟨S,p⟩;obtain ⟨h,Y0⟩:=Eu A0 S (by omega);have A:=A.upd S (by omega);have B:=B.upd S (by omega);have C:=C.updN S (Nb.of G (by omega)) (by omega);have D:Box J0 Y [O,.slice none 0 0,.slice none 0 0] 43:=p;refine Ro 4 (Yl rfl (yfa rfl fo_29_1) (Yl rfl (ylb rfl ag_26 A rfl) ?_));obtain ⟨f0,H0,hF⟩:=bsome hF;refine Ef rfl (eca rfl gf_129 (W_laws_toStringS H0 (by omega) (m.oh hH h) :)) ?_;rintro X k0 ⟨_,rfl,E,L⟩;obtain ⟨B0,Z0⟩:=Et h L;have A:=A.ext L;have B:=B.ext L;have D:=D.ext L;have C:=C.extN L (by omega);have I:=ownR.blk E;refine Yl rfl (yfa rfl fo_43_1) (Ef rfl (eff_store1 rfl rfl rfl D cn_26 (slRep.cells (ownR.slf E (Nat.le_refl _) (Nat.le_refl _))) (slRep.one (ownR.slf E (Nat.le_refl _) (Nat.le_refl _))) rfl) ?_);rintro _ K0 ⟨J,s⟩;obtain ⟨i,a0⟩:=Eu B0 J (by omega);have A:=A.upd J (by omega);have B:=B.upd J (by omega);have C:=C.updN J (Nb.of G (by omega)) (by omega);have E:=E.upd J (Nb.of I (by omega));have D:Box K0 Y [O,X,.slice none 0 0] 43:=s;refine Ro 4 (Yl rfl (yfa rfl fo_29_2) (Yl rfl (ylb rfl ag_27 A rfl) ?_));obtain ⟨g0,I0,hF⟩:=bsome hF;refine Ef rfl (eca rfl gf_130 (W_laws_toPortS I0 (by omega) (o.oh hH i) :)) ?_;rintro d l0 ⟨_,rfl,F,M⟩;obtain ⟨C0,b0⟩:=Et i M;have B:=B.ext M;have D:=D.ext M;have C:=C.extN M (by omega);have E:=E.ext M;have R:=ownR.blk F;refine Yl rfl (yfa rfl fo_43_2) (Ef rfl (eff_store1 rfl rfl rfl D cn_41 (slRep.cells (ownR.slf F (Nat.le_refl _) (Nat.le_refl _))) (slRep.one (ownR.slf F (Nat.le_refl _) (Nat.le_refl _))) rfl) ?_);rintro _ L0 ⟨K,t⟩;obtain ⟨D0,c0⟩:=Eu C0 K (by omega);have B:=B.upd K (by omega);have C:=C.updN K (Nb.of G (by omega)) (by omega);have E:=E.upd K (Nb.of I (by omega));have F:=F.upd K (Nb.of R (by omega));have D:Box L0 Y [O,X,d] 43:=t;refine Ro 4 (Yl rfl (ynb rfl ag_43 D cn_43) (Ef rfl (est rfl B cn_43 (allc_cons (slRep.one (ownR.slN C (Nat.le_refl _) (Nat.le_refl _) (by omega))) (allc_cons (slRep.one (ownR.slf E (Nat.le_refl _) (Nat.le_refl _))) (allc_cons (slRep.one (ownR.slf F (Nat.le_refl _) (Nat.le_refl _))) allc_nil))) rfl) ?_));rintro _ M0 ⟨T,v⟩;obtain ⟨E0,d0⟩:=Eu D0 T (by omega);have C:=C.updN T (Nb.of G (by omega)) (by omega);have E:=E.upd T (Nb.of I (by omega));have F:=F.upd T (Nb.of R (by omega));have B:Box M0 e [O,X,d] 43:=v;refine Ro 3 ?_;obtain rfl:=szs hF;exact NX.end (rs:=[.cell 2 43]) (vs:=[.agg #[O,X,d]]) rfl ⟨⟨e,rfl,box_load ag_43 cn_43 B⟩,trivial⟩ ⟨_,rfl,_,_,_,rfl,ownR.baseN (ownR.wideN C (by omega)) (by omega),ownR.base E (by omega),ownR.base F (by omega),(No.of I G (by omega)),(No.of R G (by omega)),(No.of R I (by omega)),E0⟩
def F_laws_toWire (n:Nat) (a0:S_Wire):Option S_Wire:=(Option.bind (F_laws_toInt64S n a0.Parent) fun r30=>(Option.bind (F_laws_toInt64S n a0.Res) fun r45=>(Option.bind (F_laws_toInt64S n a0.Cap) fun r60=>(Option.bind (F_laws_toInt64S n a0.Sink) fun r75=>(some ((S_Wire.mk r30 r45 r60 r75)))))))
theorem W_laws_toWire {n:Nat} {Q:S_Wire} {r:S_Wire} {w:World} {h:Value} {i:Value} {j:Value} {k:Value} {H:Nat} (hF:F_laws_toWire n Q = some r) (hH:H ≤ w.heap.size) (y:slRep (cInt .i64) w (Iv 0 H) Q.Parent h) (z:slRep (cInt .i64) w (Iv 0 H) Q.Res i) (A0:slRep (cInt .i64) w (Iv 0 H) Q.Cap j) (B0:slRep (cInt .i64) w (Iv 0 H) Q.Sink k) :
    Calls Tryz.prog 131 [.agg #[h,i,j,k]].toArray w (Ret fun u a => ∃ V W X Y,u = .agg #[V,W,X,Y]∧ownR (cInt .i64) a w.heap.size (Iv 0 0) 2 r.Parent V∧ownR (cInt .i64) a w.heap.size (Iv 0 0) 2 r.Res W∧ownR (cInt .i64) a w.heap.size (Iv 0 0) 2 r.Cap X∧ownR (cInt .i64) a w.heap.size (Iv 0 0) 2 r.Sink Y∧(∀ g q,W.ownBlock = some g → V.ownBlock = some q → g ≠ q)∧(∀ g q,X.ownBlock = some g → V.ownBlock = some q → g ≠ q)∧(∀ g q,X.ownBlock = some g → W.ownBlock = some q → g ≠ q)∧(∀ g q,Y.ownBlock = some g → V.ownBlock = some q → g ≠ q)∧(∀ g q,Y.ownBlock = some g → W.ownBlock = some q → g ≠ q)∧(∀ g q,Y.ownBlock = some g → X.ownBlock = some q → g ≠ q)∧Ext w a):=by
  refine calls_ofD Tryz.func131 rfl Tryz.ntmps131 ?_;have H0:Ext w w:=Ext.refl w;unfold F_laws_toWire at hF;refine Rc 2 (Ef rfl (eff_box rfl rfl) ?_);rintro _ V0 ⟨x,rfl,b0,c0,Q0,A⟩;have A:Box V0 x [h,i,j,k] 202:=A;obtain ⟨I0,h0⟩:=Et H0 Q0;refine Ef rfl (eff_alloc rfl zn_205) ?_;rintro _ x0 ⟨m,rfl,d0,e0,v,B⟩;obtain ⟨J0,i0⟩:=Et I0 v;have A:=A.ext v;refine Ro 4 (Ef rfl (eff_alloc rfl zn_205) ?_);rintro _ y0 ⟨b,rfl,f0,g0,f,D⟩;obtain ⟨o,j0⟩:=Et J0 f;have A:=A.ext f;have B:=B.ext f;refine Ro 4 (Yl rfl (yfa rfl fo_202_0) (Yl rfl (ylb rfl ag_75 A rfl) ?_));obtain ⟨t0,R0,hF⟩:=bsome hF;refine Ef rfl (eca rfl gf_33 (W_laws_toInt64S R0 (by omega) (y.oh hH o) :)) ?_;rintro P z0 ⟨_,rfl,C,d⟩;obtain ⟨K0,k0⟩:=Et o d;have A:=A.ext d;have B:=B.ext d;have D:=D.ext d;have I:=ownR.blk C;refine Yl rfl (yfa rfl fo_205_0) (Ef rfl (eff_store1 rfl rfl rfl D cn_75 (slRep.cells (ownR.slf C (Nat.le_refl _) (Nat.le_refl _))) (slRep.one (ownR.slf C (Nat.le_refl _) (Nat.le_refl _))) rfl) ?_);rintro _ W0 ⟨c,C0⟩;obtain ⟨p,l0⟩:=Eu K0 c (by omega);have A:=A.upd c (by omega);have B:=B.upd c (by omega);have C:=C.upd c (Nb.of I (by omega));have D:Box W0 b [P,.slice none 0 0,.slice none 0 0,.slice none 0 0] 205:=C0;refine Ro 4 (Yl rfl (yfa rfl fo_202_1) (Yl rfl (ylb rfl ag_75 A rfl) ?_));obtain ⟨u0,S0,hF⟩:=bsome hF;refine Ef rfl (eca rfl gf_33 (W_laws_toInt64S S0 (by omega) (z.oh hH p) :)) ?_;rintro Z A1 ⟨_,rfl,E,U⟩;obtain ⟨L0,m0⟩:=Et p U;have A:=A.ext U;have B:=B.ext U;have D:=D.ext U;have C:=C.ext U;have J:=ownR.blk E;refine Yl rfl (yfa rfl fo_205_1) (Ef rfl (eff_store1 rfl rfl rfl D cn_75 (slRep.cells (ownR.slf E (Nat.le_refl _) (Nat.le_refl _))) (slRep.one (ownR.slf E (Nat.le_refl _) (Nat.le_refl _))) rfl) ?_);rintro _ X0 ⟨S,D0⟩;obtain ⟨s,n0⟩:=Eu L0 S (by omega);have A:=A.upd S (by omega);have B:=B.upd S (by omega);have C:=C.upd S (Nb.of I (by omega));have E:=E.upd S (Nb.of J (by omega));have D:Box X0 b [P,Z,.slice none 0 0,.slice none 0 0] 205:=D0;refine Ro 4 (Yl rfl (yfa rfl fo_202_2) (Yl rfl (ylb rfl ag_75 A rfl) ?_));obtain ⟨v0,T0,hF⟩:=bsome hF;refine Ef rfl (eca rfl gf_33 (W_laws_toInt64S T0 (by omega) (A0.oh hH s) :)) ?_;rintro e B1 ⟨_,rfl,F,N⟩;obtain ⟨M0,o0⟩:=Et s N;have A:=A.ext N;have B:=B.ext N;have D:=D.ext N;have C:=C.ext N;have E:=E.ext N;have K:=ownR.blk F;refine Yl rfl (yfa rfl fo_205_2) (Ef rfl (eff_store1 rfl rfl rfl D cn_75 (slRep.cells (ownR.slf F (Nat.le_refl _) (Nat.le_refl _))) (slRep.one (ownR.slf F (Nat.le_refl _) (Nat.le_refl _))) rfl) ?_);rintro _ Y0 ⟨L,E0⟩;obtain ⟨t,p0⟩:=Eu M0 L (by omega);have A:=A.upd L (by omega);have B:=B.upd L (by omega);have C:=C.upd L (Nb.of I (by omega));have E:=E.upd L (Nb.of J (by omega));have F:=F.upd L (Nb.of K (by omega));have D:Box Y0 b [P,Z,e,.slice none 0 0] 205:=E0;refine Ro 4 (Yl rfl (yfa rfl fo_202_3) (Yl rfl (ylb rfl ag_75 A rfl) ?_));obtain ⟨w0,U0,hF⟩:=bsome hF;refine Ef rfl (eca rfl gf_33 (W_laws_toInt64S U0 (by omega) (B0.oh hH t) :)) ?_;rintro l C1 ⟨_,rfl,G,O⟩;obtain ⟨N0,q0⟩:=Et t O;have B:=B.ext O;have D:=D.ext O;have C:=C.ext O;have E:=E.ext O;have F:=F.ext O;have R:=ownR.blk G;refine Yl rfl (yfa rfl fo_205_3) (Ef rfl (eff_store1 rfl rfl rfl D cn_75 (slRep.cells (ownR.slf G (Nat.le_refl _) (Nat.le_refl _))) (slRep.one (ownR.slf G (Nat.le_refl _) (Nat.le_refl _))) rfl) ?_);rintro _ Z0 ⟨M,F0⟩;obtain ⟨O0,r0⟩:=Eu N0 M (by omega);have B:=B.upd M (by omega);have C:=C.upd M (Nb.of I (by omega));have E:=E.upd M (Nb.of J (by omega));have F:=F.upd M (Nb.of K (by omega));have G:=G.upd M (Nb.of R (by omega));have D:Box Z0 b [P,Z,e,l] 205:=F0;refine Ro 4 (Yl rfl (ynb rfl ag_205 D cn_205) (Ef rfl (est rfl B cn_205 (allc_cons (slRep.one (ownR.slf C (Nat.le_refl _) (Nat.le_refl _))) (allc_cons (slRep.one (ownR.slf E (Nat.le_refl _) (Nat.le_refl _))) (allc_cons (slRep.one (ownR.slf F (Nat.le_refl _) (Nat.le_refl _))) (allc_cons (slRep.one (ownR.slf G (Nat.le_refl _) (Nat.le_refl _))) allc_nil)))) rfl) ?_));rintro _ a0 ⟨T,G0⟩;obtain ⟨P0,s0⟩:=Eu O0 T (by omega);have C:=C.upd T (Nb.of I (by omega));have E:=E.upd T (Nb.of J (by omega));have F:=F.upd T (Nb.of K (by omega));have G:=G.upd T (Nb.of R (by omega));have B:Box a0 m [P,Z,e,l] 205:=G0;refine Ro 3 ?_;obtain rfl:=szs hF;exact NX.end (rs:=[.cell 2 205]) (vs:=[.agg #[P,Z,e,l]]) rfl ⟨⟨m,rfl,box_load ag_205 cn_205 B⟩,trivial⟩ ⟨_,rfl,_,_,_,_,rfl,ownR.base C (by omega),ownR.base E (by omega),ownR.base F (by omega),ownR.base G (by omega),(No.of J I (by omega)),(No.of K I (by omega)),(No.of K J (by omega)),(No.of R I (by omega)),(No.of R J (by omega)),(No.of R K (by omega)),P0⟩
def F_laws_toWireS_L1 (n:Nat) (a0:List S_Wire) (k0:Int→(List S_Wire)→Option (List S_Wire)):Nat→Int→(List S_Wire)→Option (List S_Wire)
  | 0, _, _=>none
  | m + 1, i19, l20=>(bif decide (i19 < (a0.length:Int)) then (Option.bind (getI a0 i19) fun x22=>(Option.bind (F_laws_toWire n x22) fun r38=>(Option.bind (getI l20 i19) fun x66=>(F_laws_toWireS_L1 n a0 k0 m (IntKind.wrap .i64 (i19 + 1)) ((l20.set (i19).toNat r38)))))) else (k0 i19 l20))
def F_laws_toWireS (n:Nat) (a0:List S_Wire):Option (List S_Wire):=(Option.bind (mkN ((a0.length:Int)) 96) fun n3=>(F_laws_toWireS_L1 n a0 (fun i19 l20=>(some l20)) n 0 (List.replicate n3 ((S_Wire.mk (([]:List Int)) (([]:List Int)) (([]:List Int)) (([]:List Int)))))))
theorem W_laws_toWireS {n:Nat} {G:List S_Wire} {r:List S_Wire} {w:World} {R:Value} {H:Nat} (hF:F_laws_toWireS n G = some r) (hH:H ≤ w.heap.size) (I:slRep C_Wire w (Iv 0 H) G R) :
    Calls Tryz.prog 62 [R].toArray w (Ret fun u T => ∃ Q,u = Q∧ownR C_Wire T w.heap.size (SX w.heap.size T.heap.size Q) 205 r Q∧Ext w T):=by
  refine calls_ofD Tryz.func62 rfl Tryz.ntmps62 ?_;have V:Ext w w:=Ext.refl w;unfold F_laws_toWireS at hF;refine Rc 8 (Yl rfl (yle rfl Tryz.underlying30 (I.oh hH V)) ?_);obtain ⟨C0,l,hF⟩:=bsome hF;refine Ef rfl (eff_make (c:=C_Wire) (z:=(S_Wire.mk (([]:List Int)) (([]:List Int)) (([]:List Int)) (([]:List Int)))) rfl Tryz.underlying44 in_205 rfl rfl rfl l rfl rfl (fun _ => C_Wire_mk (slRep.nil _ _ _) (slRep.nil _ _ _) (slRep.nil _ _ _) (slRep.nil _ _ _))) ?_;rintro S M0 ⟨U,P,T0,f0,A0,K⟩;obtain ⟨g,g0⟩:=Et V A0;have K:=ownR.toN K P;have C:=bd_of P;clear P;refine Ro 10 ?_;refine WC.loopD (fun D a wl => ∃ (A:Int) (B:List S_Wire),Kn 23 [(0,R),(3,S),(4,.int .i64 A)] a∧Ext w wl∧M0.heap.size ≤ wl.heap.size∧ownR C_Wire wl (U) (SX (U) wl.heap.size S) 205 B S∧F_laws_toWireS_L1 n G (fun A B => (some B)) D A B = some r) n ?_ ?_
  · intro a hK;exact ⟨0,(List.replicate C0 ((S_Wire.mk (([]:List Int)) (([]:List Int)) (([]:List Int)) (([]:List Int))))),hK.sub rfl,g,Nat.le_refl _,(ownR.wideN K (by omega)),hF⟩
  · rintro D a r0 ⟨A,B,hK,E,h0,F,hF⟩;revert a;change WC _ _ _ _ _ _
    cases D with
    | zero => exact nos hF
    | succ D =>
      rw [F_laws_toWireS_L1.eq_2] at hF;refine Rc 5 (Yl rfl (yle rfl Tryz.underlying30 (I.oh hH E)) (Ro 3 (Wc rfl hF ?_ ?_)))
      · intro hF;refine Rc 9 ?_;obtain ⟨t0,B0,hF⟩:=bsome hF;refine Ye rfl (yix rfl Tryz.underlying30 cn_202 (I.oh hH E) B0) ?_;rintro _ ⟨N0,k0,l0,rfl,U0,m,d⟩;obtain ⟨D0,E0,F0,G0,rfl,q,s,t,v⟩:=C_Wire_open m;refine Yl rfl (yln (us:=[D0,E0,F0,G0]) rfl ag_202 d cn_202) ?_;obtain ⟨b,o,hF⟩:=bsome hF;refine Ef rfl (eca rfl gf_131 (W_laws_toWire o (by omega) q s t v :)) ?_;rintro _ L0 ⟨H0,I0,J0,K0,rfl,L,M,N,O,V0,W0,X0,Y0,Z0,a0,Y⟩;obtain ⟨i,i0⟩:=Et E Y;have F:=F.extN Y (by omega);have P0:=ownR.blk L;have Q0:=ownR.blk M;have R0:=ownR.blk N;have S0:=ownR.blk O;obtain ⟨u0,Z,hF⟩:=bsome hF;have X:=ownR.wideN (hi':=L0.heap.size) F (by omega);refine Ye rfl (yio rfl Tryz.underlying44 cn_205 X Z) ?_;rintro _ ⟨O0,m0,rfl,J,W,f⟩;have p:=W;obtain ⟨n0,o0,p0,q0,rfl,b0,c0,d0,e0⟩:=C_Wire_open W;refine Ef rfl (eff_store_own (c:=C_Wire) (us':=[H0,I0,J0,K0]) (y':=b) 0 _ rfl rfl rfl X J Z rfl cn_205 (allc_cons (slRep.one (ownR.slf L (Nat.le_refl _) (Nat.le_refl _))) (allc_cons (slRep.one (ownR.slf M (Nat.le_refl _) (Nat.le_refl _))) (allc_cons (slRep.one (ownR.slf N (Nat.le_refl _) (Nat.le_refl _))) (allc_cons (slRep.one (ownR.slf O (Nat.le_refl _) (Nat.le_refl _))) allc_nil)))) p f rfl rfl (C_Wire_mk ((ownR.slf L (Nat.le_refl _) (Nat.le_refl _)).mono (fun k h => ⟨by have:=h.1;omega,by have:=h.2;omega,fun e => by have:=C k e;have:=h.1;have:=h.2;omega⟩) (fun _ _ => rfl)) ((ownR.slf M (Nat.le_refl _) (Nat.le_refl _)).mono (fun k h => ⟨by have:=h.1;omega,by have:=h.2;omega,fun e => by have:=C k e;have:=h.1;have:=h.2;omega⟩) (fun _ _ => rfl)) ((ownR.slf N (Nat.le_refl _) (Nat.le_refl _)).mono (fun k h => ⟨by have:=h.1;omega,by have:=h.2;omega,fun e => by have:=C k e;have:=h.1;have:=h.2;omega⟩) (fun _ _ => rfl)) ((ownR.slf O (Nat.le_refl _) (Nat.le_refl _)).mono (fun k h => ⟨by have:=h.1;omega,by have:=h.2;omega,fun e => by have:=C k e;have:=h.1;have:=h.2;omega⟩) (fun _ _ => rfl))) (fun k h e => h.2.2 (e ▸ J))) ?_;rintro _ s0 ⟨y,x⟩;obtain ⟨j,j0⟩:=Eu i y (by have:=C _ J;omega);refine Ro 9 ?_;intro a hK;exact ⟨D,Nat.le.refl,(IntKind.wrap .i64 (A + 1)),((B.set (A).toNat b)),hK.sub rfl,j,(by omega),(ownR.wideN x (by omega)),hF⟩
      · intro hF;refine Rc 12 ?_;obtain rfl:=szs hF;exact Ne rfl rfl ⟨_,rfl,_,rfl,ownR.baseN (ownR.wideN F (by omega)) (by omega),E⟩
def F_laws_toBlock (n:Nat) (a0:S_Block):Option S_Block:=(Option.bind (F_laws_toLibrary n a0.Library) fun r32=>(Option.bind (F_laws_toDesign n a0.Design) fun r47=>(Option.bind (F_laws_toWireS n a0.Wires) fun r73=>(some ((S_Block.mk r32 r47 r73))))))
theorem W_laws_toBlock {n:Nat} {R:S_Block} {r:S_Block} {w:World} {a:Value} {b:Value} {d:Value} {e:Value} {s:Value} {H:Nat} (hF:F_laws_toBlock n R = some r) (hH:H ≤ w.heap.size) (B0:slRep C_Cell w (Iv 0 H) R.Library.Cells a) (C0:slRep C_Instance w (Iv 0 H) R.Design.Instances b) (D0:slRep cStr w (Iv 0 H) R.Design.Nets d) (E0:slRep C_Port w (Iv 0 H) R.Design.Ports e) (A0:slRep C_Wire w (Iv 0 H) R.Wires s) :
    Calls Tryz.prog 17 [.agg #[a,b,d,e,s]].toArray w (Ret fun u J => ∃ O P U V Q,u = .agg #[O,P,U,V,Q]∧ownR C_Cell J w.heap.size (SX w.heap.size J.heap.size O) 160 r.Library.Cells O∧ownR C_Instance J w.heap.size (SX w.heap.size J.heap.size P) 162 r.Design.Instances P∧ownR cStr J w.heap.size (Iv 0 0) 9 r.Design.Nets U∧ownR C_Port J w.heap.size (Iv 0 0) 245 r.Design.Ports V∧ownR C_Wire J w.heap.size (SX w.heap.size J.heap.size Q) 205 r.Wires Q∧(∀ g q,P.ownBlock = some g → O.ownBlock = some q → g ≠ q)∧(∀ g q,U.ownBlock = some g → O.ownBlock = some q → g ≠ q)∧(∀ g q,U.ownBlock = some g → P.ownBlock = some q → g ≠ q)∧(∀ g q,V.ownBlock = some g → O.ownBlock = some q → g ≠ q)∧(∀ g q,V.ownBlock = some g → P.ownBlock = some q → g ≠ q)∧(∀ g q,V.ownBlock = some g → U.ownBlock = some q → g ≠ q)∧(∀ g q,Q.ownBlock = some g → O.ownBlock = some q → g ≠ q)∧(∀ g q,Q.ownBlock = some g → P.ownBlock = some q → g ≠ q)∧(∀ g q,Q.ownBlock = some g → U.ownBlock = some q → g ≠ q)∧(∀ g q,Q.ownBlock = some g → V.ownBlock = some q → g ≠ q)∧Ext w J):=by
  refine calls_ofD Tryz.func17 rfl Tryz.ntmps17 ?_;have J0:Ext w w:=Ext.refl w;unfold F_laws_toBlock at hF;refine Rc 2 (Ef rfl (eff_box rfl rfl) ?_);rintro _ Y0 ⟨z,rfl,d0,e0,R0,A⟩;have A:Box Y0 z [a,b,d,e,s] 32:=A;obtain ⟨K0,j0⟩:=Et J0 R0;refine Ef rfl (eff_alloc rfl zn_46) ?_;rintro _ w0 ⟨t,rfl,f0,g0,y,B⟩;obtain ⟨L0,k0⟩:=Et K0 y;have A:=A.ext y;refine Ro 4 (Ef rfl (eff_alloc rfl zn_46) ?_);rintro _ x0 ⟨m,rfl,h0,i0,o,D⟩;obtain ⟨v,l0⟩:=Et L0 o;have A:=A.ext o;have B:=B.ext o;refine Ro 4 (Yl rfl (yfa rfl fo_32_0) (Yl rfl (yln (us:=[a]) rfl ag_24 (CellsAt.sub (Box.cells A) 0 1:CellsAt _ _ _ [a]) cn_24) ?_));obtain ⟨t0,V0,hF⟩:=bsome hF;refine Ef rfl (eca rfl gf_60 (W_laws_toLibrary V0 (by omega) (B0.oh hH v) :)) ?_;rintro _ y0 ⟨c,rfl,C,i⟩;obtain ⟨M0,m0⟩:=Et v i;have A:=A.ext i;have B:=B.ext i;have D:=D.ext i;have K:=ownR.blk C;refine Yl rfl (yfa rfl fo_46_0) (Ef rfl (est rfl D cn_39 (allc_cons (slRep.one (ownR.slN C (Nat.le_refl _) (Nat.le_refl _) (by omega))) allc_nil) rfl) ?_);rintro _ Z0 ⟨h,F0⟩;obtain ⟨f,n0⟩:=Eu M0 h (by omega);have A:=A.upd h (by omega);have B:=B.upd h (by omega);have C:=C.updN h (Nb.of K (by omega)) (by omega);have D:Box Z0 m [c,.slice none 0 0,.slice none 0 0,.slice none 0 0,.slice none 0 0] 46:=F0;refine Ro 4 (Yl rfl (yfa rfl fo_32_1) (Yl rfl (yln (us:=[b,d,e]) rfl ag_29 (CellsAt.sub (Box.cells A) 1 3:CellsAt _ _ _ [b,d,e]) cn_29) ?_));obtain ⟨u0,W0,hF⟩:=bsome hF;refine Ef rfl (eca rfl gf_61 (W_laws_toDesign W0 (by omega) (C0.oh hH f) (D0.oh hH f) (E0.oh hH f) :)) ?_;rintro _ z0 ⟨j,k,l,rfl,E,F,G,S0,T0,U0,Z⟩;obtain ⟨N0,o0⟩:=Et f Z;have A:=A.ext Z;have B:=B.ext Z;have D:=D.ext Z;have C:=C.extN Z (by omega);have W:=ownR.blk E;have X:=ownR.blk F;have Y:=ownR.blk G;refine Yl rfl (yfa rfl fo_46_1) (Ef rfl (est rfl D cn_43 (allc_cons (slRep.one (ownR.slN E (Nat.le_refl _) (Nat.le_refl _) (by omega))) (allc_cons (slRep.one (ownR.slf F (Nat.le_refl _) (Nat.le_refl _))) (allc_cons (slRep.one (ownR.slf G (Nat.le_refl _) (Nat.le_refl _))) allc_nil))) rfl) ?_);rintro _ a0 ⟨L,G0⟩;obtain ⟨x,p0⟩:=Eu N0 L (by omega);have A:=A.upd L (by omega);have B:=B.upd L (by omega);have C:=C.updN L (Nb.of K (by omega)) (by omega);have E:=E.updN L (Nb.of W (by omega)) (by omega);have F:=F.upd L (Nb.of X (by omega));have G:=G.upd L (Nb.of Y (by omega));have D:Box a0 m [c,j,k,l,.slice none 0 0] 46:=G0;refine Ro 4 (Yl rfl (yfa rfl fo_32_2) (Yl rfl (ylb rfl ag_30 A rfl) ?_));obtain ⟨v0,X0,hF⟩:=bsome hF;refine Ef rfl (eca rfl gf_62 (W_laws_toWireS X0 (by omega) (A0.oh hH x) :)) ?_;rintro p A1 ⟨_,rfl,I,N⟩;obtain ⟨O0,q0⟩:=Et x N;have B:=B.ext N;have D:=D.ext N;have C:=C.extN N (by omega);have E:=E.extN N (by omega);have F:=F.ext N;have G:=G.ext N;have S:=ownR.blk I;refine Yl rfl (yfa rfl fo_46_2) (Ef rfl (eff_store1 rfl rfl rfl D cn_44 (slRep.cells (ownR.slN I (Nat.le_refl _) (Nat.le_refl _) (by omega))) (slRep.one (ownR.slN I (Nat.le_refl _) (Nat.le_refl _) (by omega))) rfl) ?_);rintro _ b0 ⟨M,H0⟩;obtain ⟨P0,r0⟩:=Eu O0 M (by omega);have B:=B.upd M (by omega);have C:=C.updN M (Nb.of K (by omega)) (by omega);have E:=E.updN M (Nb.of W (by omega)) (by omega);have F:=F.upd M (Nb.of X (by omega));have G:=G.upd M (Nb.of Y (by omega));have I:=I.updN M (Nb.of S (by omega)) (by omega);have D:Box b0 m [c,j,k,l,p] 46:=H0;refine Ro 4 (Yl rfl (ynb rfl ag_46 D cn_46) (Ef rfl (est rfl B cn_46 (allc_cons (slRep.one (ownR.slN C (Nat.le_refl _) (Nat.le_refl _) (by omega))) (allc_cons (slRep.one (ownR.slN E (Nat.le_refl _) (Nat.le_refl _) (by omega))) (allc_cons (slRep.one (ownR.slf F (Nat.le_refl _) (Nat.le_refl _))) (allc_cons (slRep.one (ownR.slf G (Nat.le_refl _) (Nat.le_refl _))) (allc_cons (slRep.one (ownR.slN I (Nat.le_refl _) (Nat.le_refl _) (by omega))) allc_nil))))) rfl) ?_));rintro _ c0 ⟨T,I0⟩;obtain ⟨Q0,s0⟩:=Eu P0 T (by omega);have C:=C.updN T (Nb.of K (by omega)) (by omega);have E:=E.updN T (Nb.of W (by omega)) (by omega);have F:=F.upd T (Nb.of X (by omega));have G:=G.upd T (Nb.of Y (by omega));have I:=I.updN T (Nb.of S (by omega)) (by omega);have B:Box c0 t [c,j,k,l,p] 46:=I0;refine Ro 3 ?_;obtain rfl:=szs hF;exact NX.end (rs:=[.cell 2 46]) (vs:=[.agg #[c,j,k,l,p]]) rfl ⟨⟨t,rfl,box_load ag_46 cn_46 B⟩,trivial⟩ ⟨_,rfl,_,_,_,_,_,rfl,ownR.baseN (ownR.wideN C (by omega)) (by omega),ownR.baseN (ownR.wideN E (by omega)) (by omega),ownR.base F (by omega),ownR.base G (by omega),ownR.baseN (ownR.wideN I (by omega)) (by omega),(No.of W K (by omega)),(No.of X K (by omega)),S0,(No.of Y K (by omega)),T0,U0,(No.of S K (by omega)),(No.of S W (by omega)),(No.of S X (by omega)),(No.of S Y (by omega)),Q0⟩
def F_laws_eqInt64S_L1 (a0:List Int) (a1:List Int) (k0:Int→Option Bool):Nat→Int→Option Bool
  | 0, _=>none
  | m + 1, i7=>(bif decide (i7 < (a0.length:Int)) then (Option.bind (getI a0 i7) fun x8=>(Option.bind (getI a1 i7) fun x16=>(bif (x8 != x16) then (some false) else (F_laws_eqInt64S_L1 a0 a1 k0 m (IntKind.wrap .i64 (i7 + 1)))))) else (k0 i7))
def F_laws_eqInt64S (n:Nat) (a0:List Int) (a1:List Int):Option Bool:=(bif (((a0.length:Int)) != ((a1.length:Int))) then (some false) else (F_laws_eqInt64S_L1 a0 a1 (fun i7=>(some true)) n 0))
theorem W_laws_eqInt64S {n:Nat} {E:List Int} {F:List Int} {r:Bool} {w:World} {I:Value} {J:Value} {H:Nat} (hF:F_laws_eqInt64S n E F = some r) (hH:H ≤ w.heap.size) (G:slRep (cInt .i64) w (Iv 0 H) E I) (K:slRep (cInt .i64) w (Iv 0 H) F J) :
    Calls Tryz.prog 35 [I,J].toArray w (Ret fun u R => u = .bool r∧Ext w R):=by
  refine calls_ofD Tryz.func35 rfl Tryz.ntmps35 ?_;have D:Ext w w:=Ext.refl w;unfold F_laws_eqInt64S at hF;refine Rc 9 (Yl rfl (yle rfl Tryz.underlying75 (G.oh hH D)) (Ro 1 (Yl rfl (yle rfl Tryz.underlying75 (K.oh hH D)) (Ro 3 (Wc rfl hF ?_ ?_)))))
  · intro hF;refine Rc 7 ?_;obtain rfl:=szs hF;exact Ne rfl rfl ⟨_,rfl,rfl,D⟩
  · intro hF;refine Rc 9 ?_;refine WC.loopD (fun C a wl => ∃ (B:Int),Kn 26 [(0,I),(1,J),(5,.int .i64 B)] a∧Ext w wl∧w.heap.size ≤ wl.heap.size∧F_laws_eqInt64S_L1 E F (fun B => (some true)) C B = some r) n ?_ ?_
    · intro a hK;exact ⟨0,hK.sub rfl,D,Nat.le_refl _,hF⟩
    · rintro C a c ⟨B,hK,A,X,hF⟩;revert a;change WC _ _ _ _ _ _
      cases C with
      | zero => exact nos hF
      | succ C =>
        rw [F_laws_eqInt64S_L1.eq_2] at hF;refine Rc 5 (Yl rfl (yle rfl Tryz.underlying75 (G.oh hH A)) (Ro 3 (Wc rfl hF ?_ ?_)))
        · intro hF;refine Rc 5 (WC.quiet Tryz.hm (by kernel_rfl) (Qr 2 ?_));obtain ⟨d,P,hF⟩:=bsome hF;refine Qe rfl (yix rfl Tryz.underlying75 cn_2 (G.oh hH A) P) ?_;rintro _ ⟨S,Y,_,rfl,U,rfl,M⟩;refine Qy rfl (ylc 0 rfl ag_2 M rfl rfl) (Qr 2 ?_);obtain ⟨e,Q,hF⟩:=bsome hF;refine Qe rfl (yix rfl Tryz.underlying75 cn_2 (K.oh hH A) Q) ?_;rintro _ ⟨T,Z,_,rfl,V,rfl,N⟩;refine Qy rfl (ylc 0 rfl ag_2 N rfl rfl) (Qr 1 ?_);refine QL.done fun b O => ?_;obtain ⟨L,W⟩:=Et A O;refine Re 1 (Wc rfl hF ?_ ?_)
          · intro hF;refine Rc 11 ?_;obtain rfl:=szs hF;exact Ne rfl rfl ⟨_,rfl,rfl,L⟩
          · intro hF;refine Rc 9 ?_;intro a hK;exact ⟨C,Nat.le.refl,(IntKind.wrap .i64 (B + 1)),hK.sub rfl,L,(by omega),hF⟩
        · intro hF;refine Rc 11 ?_;obtain rfl:=szs hF;exact Ne rfl rfl ⟨_,rfl,rfl,A⟩
def F_laws_eqPin (n:Nat) (a0:S_Pin) (a1:S_Pin):Option Bool:=(bif (a0.Name.toList != a1.Name.toList) then (some false) else (bif (a0.Dir != a1.Dir) then (some false) else (bif (a0.Cap != a1.Cap) then (some false) else (bif (a0.Clock != a1.Clock) then (some false) else (some true)))))
theorem W_laws_eqPin {n:Nat} {A:S_Pin} {B:S_Pin} {r:Bool} {w:World} (hF:F_laws_eqPin n A B = some r) :
    Calls Tryz.prog 250 [.agg #[.string A.Name,.int .i64 A.Dir,.int .i64 A.Cap,.bool A.Clock],.agg #[.string B.Name,.int .i64 B.Dir,.int .i64 B.Cap,.bool B.Clock]].toArray w (Ret fun u F => u = .bool r∧Ext w F):=by
  refine calls_ofD Tryz.func250 rfl Tryz.ntmps250 ?_;have J:Ext w w:=Ext.refl w;unfold F_laws_eqPin at hF;refine Rc 2 (Ef rfl (eff_box rfl rfl) ?_);rintro _ F ⟨H,rfl,P,Q,L,C⟩;have C:Box F H [.string A.Name,.int .i64 A.Dir,.int .i64 A.Cap,.bool A.Clock] 307:=C;obtain ⟨K,S⟩:=Et J L;refine Ef rfl (eff_box rfl rfl) ?_;rintro _ M ⟨I,rfl,N,O,G,D⟩;have D:Box M I [.string B.Name,.int .i64 B.Dir,.int .i64 B.Cap,.bool B.Clock] 307:=D;obtain ⟨E,R⟩:=Et K G;have C:=C.ext G;refine Ro 6 (Yl rfl (yfa rfl fo_307_0) (Yl rfl (ylb rfl ag_9 C rfl) (Yl rfl (yfa rfl fo_307_0) (Yl rfl (ylb rfl ag_9 D rfl) (Ro 3 (Wc rfl hF ?_ ?_))))))
  · intro hF;refine Rc 7 ?_;obtain rfl:=szs hF;exact Ne rfl rfl ⟨_,rfl,rfl,E⟩
  · intro hF;refine Rc 5 (Yl rfl (yfa rfl fo_307_1) (Yl rfl (ylb rfl ag_2 C rfl) (Yl rfl (yfa rfl fo_307_1) (Yl rfl (ylb rfl ag_2 D rfl) (Ro 3 (Wc rfl hF ?_ ?_))))))
    · intro hF;refine Rc 7 ?_;obtain rfl:=szs hF;exact Ne rfl rfl ⟨_,rfl,rfl,E⟩
    · intro hF;refine Rc 5 (Yl rfl (yfa rfl fo_307_2) (Yl rfl (ylb rfl ag_2 C rfl) (Yl rfl (yfa rfl fo_307_2) (Yl rfl (ylb rfl ag_2 D rfl) (Ro 3 (Wc rfl hF ?_ ?_))))))
      · intro hF;refine Rc 7 ?_;obtain rfl:=szs hF;exact Ne rfl rfl ⟨_,rfl,rfl,E⟩
      · intro hF;refine Rc 5 (Yl rfl (yfa rfl fo_307_3) (Yl rfl (ylb rfl ag_4 C rfl) (Yl rfl (yfa rfl fo_307_3) (Yl rfl (ylb rfl ag_4 D rfl) (Yl rfl (yld_neb rfl Tryz.underlying4 rfl rfl) (Ro 2 (Wc rfl hF ?_ ?_)))))))
        · intro hF;refine Rc 7 ?_;obtain rfl:=szs hF;exact Ne rfl rfl ⟨_,rfl,rfl,E⟩
        · intro hF;refine Rc 8 ?_;obtain rfl:=szs hF;exact Ne rfl rfl ⟨_,rfl,rfl,E⟩
def F_laws_eqPinS_L1 (n:Nat) (a0:List S_Pin) (a1:List S_Pin) (k0:Int→Option Bool):Nat→Int→Option Bool
  | 0, _=>none
  | m + 1, i7=>(bif decide (i7 < (a0.length:Int)) then (Option.bind (getI a0 i7) fun x8=>(Option.bind (getI a1 i7) fun x16=>(Option.bind (F_laws_eqPin n x8 x16) fun r24=>(bif (!r24) then (some false) else (F_laws_eqPinS_L1 n a0 a1 k0 m (IntKind.wrap .i64 (i7 + 1))))))) else (k0 i7))
def F_laws_eqPinS (n:Nat) (a0:List S_Pin) (a1:List S_Pin):Option Bool:=(bif (((a0.length:Int)) != ((a1.length:Int))) then (some false) else (F_laws_eqPinS_L1 n a0 a1 (fun i7=>(some true)) n 0))
theorem W_laws_eqPinS {n:Nat} {G:List S_Pin} {I:List S_Pin} {r:Bool} {w:World} {K:Value} {L:Value} {H:Nat} (hF:F_laws_eqPinS n G I = some r) (hH:H ≤ w.heap.size) (J:slRep C_Pin w (Iv 0 H) G K) (M:slRep C_Pin w (Iv 0 H) I L) :
    Calls Tryz.prog 227 [K,L].toArray w (Ret fun u W => u = .bool r∧Ext w W):=by
  refine calls_ofD Tryz.func227 rfl Tryz.ntmps227 ?_;have D:Ext w w:=Ext.refl w;unfold F_laws_eqPinS at hF;refine Rc 9 (Yl rfl (yle rfl Tryz.underlying157 (J.oh hH D)) (Ro 1 (Yl rfl (yle rfl Tryz.underlying157 (M.oh hH D)) (Ro 3 (Wc rfl hF ?_ ?_)))))
  · intro hF;refine Rc 7 ?_;obtain rfl:=szs hF;exact Ne rfl rfl ⟨_,rfl,rfl,D⟩
  · intro hF;refine Rc 9 ?_;refine WC.loopD (fun C a wl => ∃ (B:Int),Kn 27 [(0,K),(1,L),(5,.int .i64 B)] a∧Ext w wl∧w.heap.size ≤ wl.heap.size∧F_laws_eqPinS_L1 n G I (fun B => (some true)) C B = some r) n ?_ ?_
    · intro a hK;exact ⟨0,hK.sub rfl,D,Nat.le_refl _,hF⟩
    · rintro C a k ⟨B,hK,A,d,hF⟩;revert a;change WC _ _ _ _ _ _
      cases C with
      | zero => exact nos hF
      | succ C =>
        rw [F_laws_eqPinS_L1.eq_2] at hF;refine Rc 5 (Yl rfl (yle rfl Tryz.underlying157 (J.oh hH A)) (Ro 3 (Wc rfl hF ?_ ?_)))
        · intro hF;refine Rc 5 (WC.quiet Tryz.hm (by kernel_rfl) (Qr 2 ?_));obtain ⟨E,U,hF⟩:=bsome hF;refine Qe rfl (yix rfl Tryz.underlying157 cn_307 (J.oh hH A) U) ?_;rintro _ ⟨X,e,h,rfl,Z,Q,O⟩;obtain rfl:=C_Pin_open Q;refine Qy rfl (yln (us:=[.string E.Name,.int .i64 E.Dir,.int .i64 E.Cap,.bool E.Clock]) rfl ag_307 O cn_307) (Qr 2 ?_);obtain ⟨F,V,hF⟩:=bsome hF;refine Qe rfl (yix rfl Tryz.underlying157 cn_307 (M.oh hH A) V) ?_;rintro _ ⟨Y,f,i,rfl,b,R,P⟩;obtain rfl:=C_Pin_open R;refine Qy rfl (yln (us:=[.string F.Name,.int .i64 F.Dir,.int .i64 F.Cap,.bool F.Clock]) rfl ag_307 P cn_307) ?_;obtain ⟨g,S,hF⟩:=bsome hF;refine Ql rfl (qca rfl gf_250 fun w' hw' => (W_laws_eqPin S :)) ?_;refine Qr 1 ?_;refine QL.done fun j T => ?_;obtain ⟨N,c⟩:=Et A T;refine Re 1 (Wc rfl hF ?_ ?_)
          · intro hF;refine Rc 11 ?_;obtain rfl:=szs hF;exact Ne rfl rfl ⟨_,rfl,rfl,N⟩
          · intro hF;refine Rc 9 ?_;intro a hK;exact ⟨C,Nat.le.refl,(IntKind.wrap .i64 (B + 1)),hK.sub rfl,N,(by omega),hF⟩
        · intro hF;refine Rc 11 ?_;obtain rfl:=szs hF;exact Ne rfl rfl ⟨_,rfl,rfl,A⟩
def F_laws_eqTable (n:Nat) (a0:S_Table) (a1:S_Table):Option Bool:=(Option.bind (F_laws_eqInt64S n a0.Slews a1.Slews) fun r27=>(bif (!r27) then (some false) else (Option.bind (F_laws_eqInt64S n a0.Loads a1.Loads) fun r33=>(bif (!r33) then (some false) else (Option.bind (F_laws_eqInt64S n a0.Values a1.Values) fun r39=>(bif (!r39) then (some false) else (some true)))))))
theorem W_laws_eqTable {n:Nat} {C:S_Table} {D:S_Table} {r:Bool} {w:World} {K:Value} {M:Value} {N:Value} {O:Value} {P:Value} {L:Value} {H:Nat} (hF:F_laws_eqTable n C D = some r) (hH:H ≤ w.heap.size) (W:slRep (cInt .i64) w (Iv 0 H) C.Slews K) (X:slRep (cInt .i64) w (Iv 0 H) C.Loads M) (Y:slRep (cInt .i64) w (Iv 0 H) C.Values N) (Z:slRep (cInt .i64) w (Iv 0 H) D.Slews O) (U:slRep (cInt .i64) w (Iv 0 H) D.Loads P) (V:slRep (cInt .i64) w (Iv 0 H) D.Values L) :
    Calls Tryz.prog 283 [.agg #[K,M,N],.agg #[O,P,L]].toArray w (Ret fun u i => u = .bool r∧Ext w i):=by
  refine calls_ofD Tryz.func283 rfl Tryz.ntmps283 ?_;have a:Ext w w:=Ext.refl w;unfold F_laws_eqTable at hF;refine Rc 2 (Ef rfl (eff_box rfl rfl) ?_);rintro _ h ⟨S,rfl,k,l,c,A⟩;have A:Box h S [K,M,N] 294:=A;obtain ⟨b,p⟩:=Et a c;refine Ef rfl (eff_box rfl rfl) ?_;rintro _ j ⟨T,rfl,m,o,R,B⟩;have B:Box j T [O,P,L] 294:=B;obtain ⟨G,q⟩:=Et b R;have A:=A.ext R;refine Ro 6 (Yl rfl (yfa rfl fo_294_0) (Yl rfl (ylb rfl ag_75 A rfl) (Yl rfl (yfa rfl fo_294_0) (Yl rfl (ylb rfl ag_75 B rfl) ?_))));obtain ⟨x,d,hF⟩:=bsome hF;refine Ef rfl (eca rfl gf_35 (W_laws_eqInt64S d (by omega) (W.oh hH G) (Z.oh hH G) :)) ?_;rintro _ A0 ⟨rfl,I⟩;obtain ⟨E,s⟩:=Et G I;have A:=A.ext I;have B:=B.ext I;refine Ro 3 (Wc rfl hF ?_ ?_)
  · intro hF;refine Rc 7 ?_;obtain rfl:=szs hF;exact Ne rfl rfl ⟨_,rfl,rfl,E⟩
  · intro hF;refine Rc 5 (Yl rfl (yfa rfl fo_294_1) (Yl rfl (ylb rfl ag_75 A rfl) (Yl rfl (yfa rfl fo_294_1) (Yl rfl (ylb rfl ag_75 B rfl) ?_))));obtain ⟨y,e,hF⟩:=bsome hF;refine Ef rfl (eca rfl gf_35 (W_laws_eqInt64S e (by omega) (X.oh hH E) (U.oh hH E) :)) ?_;rintro _ B0 ⟨rfl,J⟩;obtain ⟨F,t⟩:=Et E J;have A:=A.ext J;have B:=B.ext J;refine Ro 3 (Wc rfl hF ?_ ?_)
    · intro hF;refine Rc 7 ?_;obtain rfl:=szs hF;exact Ne rfl rfl ⟨_,rfl,rfl,F⟩
    · intro hF;refine Rc 5 (Yl rfl (yfa rfl fo_294_2) (Yl rfl (ylb rfl ag_75 A rfl) (Yl rfl (yfa rfl fo_294_2) (Yl rfl (ylb rfl ag_75 B rfl) ?_))));obtain ⟨z,f,hF⟩:=bsome hF;refine Ef rfl (eca rfl gf_35 (W_laws_eqInt64S f (by omega) (Y.oh hH F) (V.oh hH F) :)) ?_;rintro _ C0 ⟨rfl,g⟩;obtain ⟨Q,v⟩:=Et F g;refine Ro 3 (Wc rfl hF ?_ ?_)
      · intro hF;refine Rc 7 ?_;obtain rfl:=szs hF;exact Ne rfl rfl ⟨_,rfl,rfl,Q⟩
      · intro hF;refine Rc 8 ?_;obtain rfl:=szs hF;exact Ne rfl rfl ⟨_,rfl,rfl,Q⟩
def F_laws_eqTableS_L1 (n:Nat) (a0:List S_Table) (a1:List S_Table) (k0:Int→Option Bool):Nat→Int→Option Bool
  | 0, _=>none
  | m + 1, i7=>(bif decide (i7 < (a0.length:Int)) then (Option.bind (getI a0 i7) fun x8=>(Option.bind (getI a1 i7) fun x22=>(Option.bind (F_laws_eqTable n x8 x22) fun r36=>(bif (!r36) then (some false) else (F_laws_eqTableS_L1 n a0 a1 k0 m (IntKind.wrap .i64 (i7 + 1))))))) else (k0 i7))
def F_laws_eqTableS (n:Nat) (a0:List S_Table) (a1:List S_Table):Option Bool:=(bif (((a0.length:Int)) != ((a1.length:Int))) then (some false) else (F_laws_eqTableS_L1 n a0 a1 (fun i7=>(some true)) n 0))
theorem W_laws_eqTableS {n:Nat} {E:List S_Table} {F:List S_Table} {r:Bool} {w:World} {I:Value} {J:Value} {H:Nat} (hF:F_laws_eqTableS n E F = some r) (hH:H ≤ w.heap.size) (G:slRep C_Table w (Iv 0 H) E I) (K:slRep C_Table w (Iv 0 H) F J) :
    Calls Tryz.prog 268 [I,J].toArray w (Ret fun u h => u = .bool r∧Ext w h):=by
  refine calls_ofD Tryz.func268 rfl Tryz.ntmps268 ?_;have D:Ext w w:=Ext.refl w;unfold F_laws_eqTableS at hF;refine Rc 9 (Yl rfl (yle rfl Tryz.underlying250 (G.oh hH D)) (Ro 1 (Yl rfl (yle rfl Tryz.underlying250 (K.oh hH D)) (Ro 3 (Wc rfl hF ?_ ?_)))))
  · intro hF;refine Rc 7 ?_;obtain rfl:=szs hF;exact Ne rfl rfl ⟨_,rfl,rfl,D⟩
  · intro hF;refine Rc 9 ?_;refine WC.loopD (fun C a wl => ∃ (B:Int),Kn 27 [(0,I),(1,J),(5,.int .i64 B)] a∧Ext w wl∧w.heap.size ≤ wl.heap.size∧F_laws_eqTableS_L1 n E F (fun B => (some true)) C B = some r) n ?_ ?_
    · intro a hK;exact ⟨0,hK.sub rfl,D,Nat.le_refl _,hF⟩
    · rintro C a y ⟨B,hK,A,o,hF⟩;revert a;change WC _ _ _ _ _ _
      cases C with
      | zero => exact nos hF
      | succ C =>
        rw [F_laws_eqTableS_L1.eq_2] at hF;refine Rc 5 (Yl rfl (yle rfl Tryz.underlying250 (G.oh hH A)) (Ro 3 (Wc rfl hF ?_ ?_)))
        · intro hF;refine Rc 5 (WC.quiet Tryz.hm (by kernel_rfl) (Qr 2 ?_));obtain ⟨z,Y,hF⟩:=bsome hF;refine Qe rfl (yix rfl Tryz.underlying250 cn_294 (G.oh hH A) Y) ?_;rintro _ ⟨i,p,t,rfl,k,O,M⟩;obtain ⟨b,c,d,rfl,R,S,T⟩:=C_Table_open O;refine Qy rfl (yln (us:=[b,c,d]) rfl ag_294 M cn_294) (Qr 2 ?_);obtain ⟨A0,Z,hF⟩:=bsome hF;refine Qe rfl (yix rfl Tryz.underlying250 cn_294 (K.oh hH A) Z) ?_;rintro _ ⟨j,q,v,rfl,l,P,N⟩;obtain ⟨e,f,g,rfl,U,V,W⟩:=C_Table_open P;refine Qy rfl (yln (us:=[e,f,g]) rfl ag_294 N cn_294) ?_;obtain ⟨s,Q,hF⟩:=bsome hF;refine Ql rfl (qca rfl gf_283 fun w' hw' => (W_laws_eqTable Q (Nat.le_trans (by omega) (hw').size) (R.old hw' (by omega)) (S.old hw' (by omega)) (T.old hw' (by omega)) (U.old hw' (by omega)) (V.old hw' (by omega)) (W.old hw' (by omega)) :)) ?_;refine Qr 1 ?_;refine QL.done fun x X => ?_;obtain ⟨L,m⟩:=Et A X;refine Re 1 (Wc rfl hF ?_ ?_)
          · intro hF;refine Rc 11 ?_;obtain rfl:=szs hF;exact Ne rfl rfl ⟨_,rfl,rfl,L⟩
          · intro hF;refine Rc 9 ?_;intro a hK;exact ⟨C,Nat.le.refl,(IntKind.wrap .i64 (B + 1)),hK.sub rfl,L,(by omega),hF⟩
        · intro hF;refine Rc 11 ?_;obtain rfl:=szs hF;exact Ne rfl rfl ⟨_,rfl,rfl,A⟩
def F_laws_eqArc (n:Nat) (a0:S_Arc) (a1:S_Arc):Option Bool:=(bif (a0.Kind != a1.Kind) then (some false) else (bif (a0.From != a1.From) then (some false) else (bif (a0.To != a1.To) then (some false) else (bif (a0.Sense != a1.Sense) then (some false) else (Option.bind (F_laws_eqTableS n a0.Delay a1.Delay) fun r23=>(bif (!r23) then (some false) else (Option.bind (F_laws_eqTableS n a0.Slew a1.Slew) fun r29=>(bif (!r29) then (some false) else (some true)))))))))
theorem W_laws_eqArc {n:Nat} {B:S_Arc} {C:S_Arc} {r:Bool} {w:World} {I:Value} {J:Value} {K:Value} {L:Value} {H:Nat} (hF:F_laws_eqArc n B C = some r) (hH:H ≤ w.heap.size) (Q:slRep C_Table w (Iv 0 H) B.Delay I) (R:slRep C_Table w (Iv 0 H) B.Slew J) (S:slRep C_Table w (Iv 0 H) C.Delay K) (T:slRep C_Table w (Iv 0 H) C.Slew L) :
    Calls Tryz.prog 251 [.agg #[.int .i64 B.Kind,.int .i64 B.From,.int .i64 B.To,.int .i64 B.Sense,I,J],.agg #[.int .i64 C.Kind,.int .i64 C.From,.int .i64 C.To,.int .i64 C.Sense,K,L]].toArray w (Ret fun u c => u = .bool r∧Ext w c):=by
  refine calls_ofD Tryz.func251 rfl Tryz.ntmps251 ?_;have U:Ext w w:=Ext.refl w;unfold F_laws_eqArc at hF;refine Rc 2 (Ef rfl (eff_box rfl rfl) ?_);rintro _ a ⟨P,rfl,d,e,W,A⟩;have A:Box a P [.int .i64 B.Kind,.int .i64 B.From,.int .i64 B.To,.int .i64 B.Sense,I,J] 252:=A;obtain ⟨V,h⟩:=Et U W;refine Ef rfl (eff_box rfl rfl) ?_;rintro _ b ⟨O,rfl,f,g,N,D⟩;have D:Box b O [.int .i64 C.Kind,.int .i64 C.From,.int .i64 C.To,.int .i64 C.Sense,K,L] 252:=D;obtain ⟨E,i⟩:=Et V N;have A:=A.ext N;refine Ro 6 (Yl rfl (yfa rfl fo_252_0) (Yl rfl (ylb rfl ag_2 A rfl) (Yl rfl (yfa rfl fo_252_0) (Yl rfl (ylb rfl ag_2 D rfl) (Ro 3 (Wc rfl hF ?_ ?_))))))
  · intro hF;refine Rc 7 ?_;obtain rfl:=szs hF;exact Ne rfl rfl ⟨_,rfl,rfl,E⟩
  · intro hF;refine Rc 5 (Yl rfl (yfa rfl fo_252_1) (Yl rfl (ylb rfl ag_2 A rfl) (Yl rfl (yfa rfl fo_252_1) (Yl rfl (ylb rfl ag_2 D rfl) (Ro 3 (Wc rfl hF ?_ ?_))))))
    · intro hF;refine Rc 7 ?_;obtain rfl:=szs hF;exact Ne rfl rfl ⟨_,rfl,rfl,E⟩
    · intro hF;refine Rc 5 (Yl rfl (yfa rfl fo_252_2) (Yl rfl (ylb rfl ag_2 A rfl) (Yl rfl (yfa rfl fo_252_2) (Yl rfl (ylb rfl ag_2 D rfl) (Ro 3 (Wc rfl hF ?_ ?_))))))
      · intro hF;refine Rc 7 ?_;obtain rfl:=szs hF;exact Ne rfl rfl ⟨_,rfl,rfl,E⟩
      · intro hF;refine Rc 5 (Yl rfl (yfa rfl fo_252_3) (Yl rfl (ylb rfl ag_2 A rfl) (Yl rfl (yfa rfl fo_252_3) (Yl rfl (ylb rfl ag_2 D rfl) (Ro 3 (Wc rfl hF ?_ ?_))))))
        · intro hF;refine Rc 7 ?_;obtain rfl:=szs hF;exact Ne rfl rfl ⟨_,rfl,rfl,E⟩
        · intro hF;refine Rc 5 (Yl rfl (yfa rfl fo_252_4) (Yl rfl (ylb rfl ag_250 A rfl) (Yl rfl (yfa rfl fo_252_4) (Yl rfl (ylb rfl ag_250 D rfl) ?_))));obtain ⟨l,X,hF⟩:=bsome hF;refine Ef rfl (eca rfl gf_268 (W_laws_eqTableS X (by omega) (Q.oh hH E) (S.oh hH E) :)) ?_;rintro _ o ⟨rfl,G⟩;obtain ⟨F,j⟩:=Et E G;have A:=A.ext G;have D:=D.ext G;refine Ro 3 (Wc rfl hF ?_ ?_)
          · intro hF;refine Rc 7 ?_;obtain rfl:=szs hF;exact Ne rfl rfl ⟨_,rfl,rfl,F⟩
          · intro hF;refine Rc 5 (Yl rfl (yfa rfl fo_252_5) (Yl rfl (ylb rfl ag_250 A rfl) (Yl rfl (yfa rfl fo_252_5) (Yl rfl (ylb rfl ag_250 D rfl) ?_))));obtain ⟨m,Y,hF⟩:=bsome hF;refine Ef rfl (eca rfl gf_268 (W_laws_eqTableS Y (by omega) (R.oh hH F) (T.oh hH F) :)) ?_;rintro _ p ⟨rfl,Z⟩;obtain ⟨M,k⟩:=Et F Z;refine Ro 3 (Wc rfl hF ?_ ?_)
            · intro hF;refine Rc 7 ?_;obtain rfl:=szs hF;exact Ne rfl rfl ⟨_,rfl,rfl,M⟩
            · intro hF;refine Rc 8 ?_;obtain rfl:=szs hF;exact Ne rfl rfl ⟨_,rfl,rfl,M⟩
def F_laws_eqArcS_L1 (n:Nat) (a0:List S_Arc) (a1:List S_Arc) (k0:Int→Option Bool):Nat→Int→Option Bool
  | 0, _=>none
  | m + 1, i7=>(bif decide (i7 < (a0.length:Int)) then (Option.bind (getI a0 i7) fun x8=>(Option.bind (getI a1 i7) fun x20=>(Option.bind (F_laws_eqArc n x8 x20) fun r32=>(bif (!r32) then (some false) else (F_laws_eqArcS_L1 n a0 a1 k0 m (IntKind.wrap .i64 (i7 + 1))))))) else (k0 i7))
def F_laws_eqArcS (n:Nat) (a0:List S_Arc) (a1:List S_Arc):Option Bool:=(bif (((a0.length:Int)) != ((a1.length:Int))) then (some false) else (F_laws_eqArcS_L1 n a0 a1 (fun i7=>(some true)) n 0))
theorem W_laws_eqArcS {n:Nat} {G:List S_Arc} {I:List S_Arc} {r:Bool} {w:World} {K:Value} {L:Value} {H:Nat} (hF:F_laws_eqArcS n G I = some r) (hH:H ≤ w.heap.size) (J:slRep C_Arc w (Iv 0 H) G K) (M:slRep C_Arc w (Iv 0 H) I L) :
    Calls Tryz.prog 228 [K,L].toArray w (Ret fun u f => u = .bool r∧Ext w f):=by
  refine calls_ofD Tryz.func228 rfl Tryz.ntmps228 ?_;have D:Ext w w:=Ext.refl w;unfold F_laws_eqArcS at hF;refine Rc 9 (Yl rfl (yle rfl Tryz.underlying158 (J.oh hH D)) (Ro 1 (Yl rfl (yle rfl Tryz.underlying158 (M.oh hH D)) (Ro 3 (Wc rfl hF ?_ ?_)))))
  · intro hF;refine Rc 7 ?_;obtain rfl:=szs hF;exact Ne rfl rfl ⟨_,rfl,rfl,D⟩
  · intro hF;refine Rc 9 ?_;refine WC.loopD (fun C a wl => ∃ (B:Int),Kn 27 [(0,K),(1,L),(5,.int .i64 B)] a∧Ext w wl∧w.heap.size ≤ wl.heap.size∧F_laws_eqArcS_L1 n G I (fun B => (some true)) C B = some r) n ?_ ?_
    · intro a hK;exact ⟨0,hK.sub rfl,D,Nat.le_refl _,hF⟩
    · rintro C a v ⟨B,hK,A,l,hF⟩;revert a;change WC _ _ _ _ _ _
      cases C with
      | zero => exact nos hF
      | succ C =>
        rw [F_laws_eqArcS_L1.eq_2] at hF;refine Rc 5 (Yl rfl (yle rfl Tryz.underlying158 (J.oh hH A)) (Ro 3 (Wc rfl hF ?_ ?_)))
        · intro hF;refine Rc 5 (WC.quiet Tryz.hm (by kernel_rfl) (Qr 2 ?_));obtain ⟨E,Y,hF⟩:=bsome hF;refine Qe rfl (yix rfl Tryz.underlying158 cn_252 (J.oh hH A) Y) ?_;rintro _ ⟨g,m,q,rfl,i,Q,O⟩;obtain ⟨b,c,rfl,T,U⟩:=C_Arc_open Q;refine Qy rfl (yln (us:=[.int .i64 E.Kind,.int .i64 E.From,.int .i64 E.To,.int .i64 E.Sense,b,c]) rfl ag_252 O cn_252) (Qr 2 ?_);obtain ⟨F,Z,hF⟩:=bsome hF;refine Qe rfl (yix rfl Tryz.underlying158 cn_252 (M.oh hH A) Z) ?_;rintro _ ⟨h,o,s,rfl,j,R,P⟩;obtain ⟨d,e,rfl,V,W⟩:=C_Arc_open R;refine Qy rfl (yln (us:=[.int .i64 F.Kind,.int .i64 F.From,.int .i64 F.To,.int .i64 F.Sense,d,e]) rfl ag_252 P cn_252) ?_;obtain ⟨p,S,hF⟩:=bsome hF;refine Ql rfl (qca rfl gf_251 fun w' hw' => (W_laws_eqArc S (Nat.le_trans (by omega) (hw').size) (T.old hw' (by omega)) (U.old hw' (by omega)) (V.old hw' (by omega)) (W.old hw' (by omega)) :)) ?_;refine Qr 1 ?_;refine QL.done fun t X => ?_;obtain ⟨N,k⟩:=Et A X;refine Re 1 (Wc rfl hF ?_ ?_)
          · intro hF;refine Rc 11 ?_;obtain rfl:=szs hF;exact Ne rfl rfl ⟨_,rfl,rfl,N⟩
          · intro hF;refine Rc 9 ?_;intro a hK;exact ⟨C,Nat.le.refl,(IntKind.wrap .i64 (B + 1)),hK.sub rfl,N,(by omega),hF⟩
        · intro hF;refine Rc 11 ?_;obtain rfl:=szs hF;exact Ne rfl rfl ⟨_,rfl,rfl,A⟩
def F_laws_eqCell (n:Nat) (a0:S_Cell) (a1:S_Cell):Option Bool:=(bif (a0.Name.toList != a1.Name.toList) then (some false) else (bif (a0.Kind != a1.Kind) then (some false) else (Option.bind (F_laws_eqPinS n a0.Pins a1.Pins) fun r27=>(bif (!r27) then (some false) else (Option.bind (F_laws_eqArcS n a0.Arcs a1.Arcs) fun r33=>(bif (!r33) then (some false) else (Option.bind (F_laws_eqInt64S n a0.Truth a1.Truth) fun r39=>(bif (!r39) then (some false) else (bif (a0.Leak != a1.Leak) then (some false) else (bif (a0.Energy != a1.Energy) then (some false) else (some true)))))))))))
theorem W_laws_eqCell {n:Nat} {C:S_Cell} {D:S_Cell} {r:Bool} {w:World} {M:Value} {O:Value} {P:Value} {Q:Value} {R:Value} {N:Value} {H:Nat} (hF:F_laws_eqCell n C D = some r) (hH:H ≤ w.heap.size) (X:slRep C_Pin w (Iv 0 H) C.Pins M) (Y:slRep C_Arc w (Iv 0 H) C.Arcs O) (Z:slRep (cInt .i64) w (Iv 0 H) C.Truth P) (a:slRep C_Pin w (Iv 0 H) D.Pins Q) (V:slRep C_Arc w (Iv 0 H) D.Arcs R) (W:slRep (cInt .i64) w (Iv 0 H) D.Truth N) :
    Calls Tryz.prog 196 [.agg #[.string C.Name,.int .i64 C.Kind,M,O,P,.int .i64 C.Leak,.int .i64 C.Energy],.agg #[.string D.Name,.int .i64 D.Kind,Q,R,N,.int .i64 D.Leak,.int .i64 D.Energy]].toArray w (Ret fun u i => u = .bool r∧Ext w i):=by
  refine calls_ofD Tryz.func196 rfl Tryz.ntmps196 ?_;have b:Ext w w:=Ext.refl w;unfold F_laws_eqCell at hF;refine Rc 2 (Ef rfl (eff_box rfl rfl) ?_);rintro _ h ⟨T,rfl,k,l,d,A⟩;have A:Box h T [.string C.Name,.int .i64 C.Kind,M,O,P,.int .i64 C.Leak,.int .i64 C.Energy] 160:=A;obtain ⟨c,p⟩:=Et b d;refine Ef rfl (eff_box rfl rfl) ?_;rintro _ j ⟨U,rfl,m,o,S,B⟩;have B:Box j U [.string D.Name,.int .i64 D.Kind,Q,R,N,.int .i64 D.Leak,.int .i64 D.Energy] 160:=B;obtain ⟨E,q⟩:=Et c S;have A:=A.ext S;refine Ro 6 (Yl rfl (yfa rfl fo_160_0) (Yl rfl (ylb rfl ag_9 A rfl) (Yl rfl (yfa rfl fo_160_0) (Yl rfl (ylb rfl ag_9 B rfl) (Ro 3 (Wc rfl hF ?_ ?_))))))
  · intro hF;refine Rc 7 ?_;obtain rfl:=szs hF;exact Ne rfl rfl ⟨_,rfl,rfl,E⟩
  · intro hF;refine Rc 5 (Yl rfl (yfa rfl fo_160_1) (Yl rfl (ylb rfl ag_2 A rfl) (Yl rfl (yfa rfl fo_160_1) (Yl rfl (ylb rfl ag_2 B rfl) (Ro 3 (Wc rfl hF ?_ ?_))))))
    · intro hF;refine Rc 7 ?_;obtain rfl:=szs hF;exact Ne rfl rfl ⟨_,rfl,rfl,E⟩
    · intro hF;refine Rc 5 (Yl rfl (yfa rfl fo_160_2) (Yl rfl (ylb rfl ag_157 A rfl) (Yl rfl (yfa rfl fo_160_2) (Yl rfl (ylb rfl ag_157 B rfl) ?_))));obtain ⟨x,e,hF⟩:=bsome hF;refine Ef rfl (eca rfl gf_227 (W_laws_eqPinS e (by omega) (X.oh hH E) (a.oh hH E) :)) ?_;rintro _ A0 ⟨rfl,J⟩;obtain ⟨F,s⟩:=Et E J;have A:=A.ext J;have B:=B.ext J;refine Ro 3 (Wc rfl hF ?_ ?_)
      · intro hF;refine Rc 7 ?_;obtain rfl:=szs hF;exact Ne rfl rfl ⟨_,rfl,rfl,F⟩
      · intro hF;refine Rc 5 (Yl rfl (yfa rfl fo_160_3) (Yl rfl (ylb rfl ag_158 A rfl) (Yl rfl (yfa rfl fo_160_3) (Yl rfl (ylb rfl ag_158 B rfl) ?_))));obtain ⟨y,f,hF⟩:=bsome hF;refine Ef rfl (eca rfl gf_228 (W_laws_eqArcS f (by omega) (Y.oh hH F) (V.oh hH F) :)) ?_;rintro _ B0 ⟨rfl,K⟩;obtain ⟨G,t⟩:=Et F K;have A:=A.ext K;have B:=B.ext K;refine Ro 3 (Wc rfl hF ?_ ?_)
        · intro hF;refine Rc 7 ?_;obtain rfl:=szs hF;exact Ne rfl rfl ⟨_,rfl,rfl,G⟩
        · intro hF;refine Rc 5 (Yl rfl (yfa rfl fo_160_4) (Yl rfl (ylb rfl ag_75 A rfl) (Yl rfl (yfa rfl fo_160_4) (Yl rfl (ylb rfl ag_75 B rfl) ?_))));obtain ⟨z,g,hF⟩:=bsome hF;refine Ef rfl (eca rfl gf_35 (W_laws_eqInt64S g (by omega) (Z.oh hH G) (W.oh hH G) :)) ?_;rintro _ C0 ⟨rfl,L⟩;obtain ⟨I,v⟩:=Et G L;have A:=A.ext L;have B:=B.ext L;refine Ro 3 (Wc rfl hF ?_ ?_)
          · intro hF;refine Rc 7 ?_;obtain rfl:=szs hF;exact Ne rfl rfl ⟨_,rfl,rfl,I⟩
          · intro hF;refine Rc 5 (Yl rfl (yfa rfl fo_160_5) (Yl rfl (ylb rfl ag_2 A rfl) (Yl rfl (yfa rfl fo_160_5) (Yl rfl (ylb rfl ag_2 B rfl) (Ro 3 (Wc rfl hF ?_ ?_))))))
            · intro hF;refine Rc 7 ?_;obtain rfl:=szs hF;exact Ne rfl rfl ⟨_,rfl,rfl,I⟩
            · intro hF;refine Rc 5 (Yl rfl (yfa rfl fo_160_6) (Yl rfl (ylb rfl ag_2 A rfl) (Yl rfl (yfa rfl fo_160_6) (Yl rfl (ylb rfl ag_2 B rfl) (Ro 3 (Wc rfl hF ?_ ?_))))))
              · intro hF;refine Rc 7 ?_;obtain rfl:=szs hF;exact Ne rfl rfl ⟨_,rfl,rfl,I⟩
              · intro hF;refine Rc 8 ?_;obtain rfl:=szs hF;exact Ne rfl rfl ⟨_,rfl,rfl,I⟩
def F_laws_eqCellS_L1 (n:Nat) (a0:List S_Cell) (a1:List S_Cell) (k0:Int→Option Bool):Nat→Int→Option Bool
  | 0, _=>none
  | m + 1, i7=>(bif decide (i7 < (a0.length:Int)) then (Option.bind (getI a0 i7) fun x8=>(Option.bind (getI a1 i7) fun x22=>(Option.bind (F_laws_eqCell n x8 x22) fun r36=>(bif (!r36) then (some false) else (F_laws_eqCellS_L1 n a0 a1 k0 m (IntKind.wrap .i64 (i7 + 1))))))) else (k0 i7))
def F_laws_eqCellS (n:Nat) (a0:List S_Cell) (a1:List S_Cell):Option Bool:=(bif (((a0.length:Int)) != ((a1.length:Int))) then (some false) else (F_laws_eqCellS_L1 n a0 a1 (fun i7=>(some true)) n 0))
theorem W_laws_eqCellS {n:Nat} {G:List S_Cell} {I:List S_Cell} {r:Bool} {w:World} {K:Value} {L:Value} {H:Nat} (hF:F_laws_eqCellS n G I = some r) (hH:H ≤ w.heap.size) (J:slRep C_Cell w (Iv 0 H) G K) (M:slRep C_Cell w (Iv 0 H) I L) :
    Calls Tryz.prog 141 [K,L].toArray w (Ret fun u j => u = .bool r∧Ext w j):=by
  refine calls_ofD Tryz.func141 rfl Tryz.ntmps141 ?_;have D:Ext w w:=Ext.refl w;unfold F_laws_eqCellS at hF;refine Rc 9 (Yl rfl (yle rfl Tryz.underlying37 (J.oh hH D)) (Ro 1 (Yl rfl (yle rfl Tryz.underlying37 (M.oh hH D)) (Ro 3 (Wc rfl hF ?_ ?_)))))
  · intro hF;refine Rc 7 ?_;obtain rfl:=szs hF;exact Ne rfl rfl ⟨_,rfl,rfl,D⟩
  · intro hF;refine Rc 9 ?_;refine WC.loopD (fun C a wl => ∃ (B:Int),Kn 27 [(0,K),(1,L),(5,.int .i64 B)] a∧Ext w wl∧w.heap.size ≤ wl.heap.size∧F_laws_eqCellS_L1 n G I (fun B => (some true)) C B = some r) n ?_ ?_
    · intro a hK;exact ⟨0,hK.sub rfl,D,Nat.le_refl _,hF⟩
    · rintro C a A0 ⟨B,hK,A,q,hF⟩;revert a;change WC _ _ _ _ _ _
      cases C with
      | zero => exact nos hF
      | succ C =>
        rw [F_laws_eqCellS_L1.eq_2] at hF;refine Rc 5 (Yl rfl (yle rfl Tryz.underlying37 (J.oh hH A)) (Ro 3 (Wc rfl hF ?_ ?_)))
        · intro hF;refine Rc 5 (WC.quiet Tryz.hm (by kernel_rfl) (Qr 2 ?_));obtain ⟨E,b,hF⟩:=bsome hF;refine Qe rfl (yix rfl Tryz.underlying37 cn_160 (J.oh hH A) b) ?_;rintro _ ⟨k,s,x,rfl,m,Q,O⟩;obtain ⟨d,e,f,rfl,T,U,V⟩:=C_Cell_open Q;refine Qy rfl (yln (us:=[.string E.Name,.int .i64 E.Kind,d,e,f,.int .i64 E.Leak,.int .i64 E.Energy]) rfl ag_160 O cn_160) (Qr 2 ?_);obtain ⟨F,c,hF⟩:=bsome hF;refine Qe rfl (yix rfl Tryz.underlying37 cn_160 (M.oh hH A) c) ?_;rintro _ ⟨l,t,y,rfl,o,R,P⟩;obtain ⟨g,h,i,rfl,W,X,Y⟩:=C_Cell_open R;refine Qy rfl (yln (us:=[.string F.Name,.int .i64 F.Kind,g,h,i,.int .i64 F.Leak,.int .i64 F.Energy]) rfl ag_160 P cn_160) ?_;obtain ⟨v,S,hF⟩:=bsome hF;refine Ql rfl (qca rfl gf_196 fun w' hw' => (W_laws_eqCell S (Nat.le_trans (by omega) (hw').size) (T.old hw' (by omega)) (U.old hw' (by omega)) (V.old hw' (by omega)) (W.old hw' (by omega)) (X.old hw' (by omega)) (Y.old hw' (by omega)) :)) ?_;refine Qr 1 ?_;refine QL.done fun z Z => ?_;obtain ⟨N,p⟩:=Et A Z;refine Re 1 (Wc rfl hF ?_ ?_)
          · intro hF;refine Rc 11 ?_;obtain rfl:=szs hF;exact Ne rfl rfl ⟨_,rfl,rfl,N⟩
          · intro hF;refine Rc 9 ?_;intro a hK;exact ⟨C,Nat.le.refl,(IntKind.wrap .i64 (B + 1)),hK.sub rfl,N,(by omega),hF⟩
        · intro hF;refine Rc 11 ?_;obtain rfl:=szs hF;exact Ne rfl rfl ⟨_,rfl,rfl,A⟩
def F_laws_eqLibrary (n:Nat) (a0:S_Library) (a1:S_Library):Option Bool:=(Option.bind (F_laws_eqCellS n a0.Cells a1.Cells) fun r19=>(bif (!r19) then (some false) else (some true)))
theorem W_laws_eqLibrary {n:Nat} {F:S_Library} {G:S_Library} {r:Bool} {w:World} {D:Value} {E:Value} {H:Nat} (hF:F_laws_eqLibrary n F G = some r) (hH:H ≤ w.heap.size) (M:slRep C_Cell w (Iv 0 H) F.Cells D) (N:slRep C_Cell w (Iv 0 H) G.Cells E) :
    Calls Tryz.prog 67 [.agg #[D],.agg #[E]].toArray w (Ret fun u U => u = .bool r∧Ext w U):=by
  refine calls_ofD Tryz.func67 rfl Tryz.ntmps67 ?_;have O:Ext w w:=Ext.refl w;unfold F_laws_eqLibrary at hF;refine Rc 2 (Ef rfl (eff_box rfl rfl) ?_);rintro _ V ⟨L,rfl,Y,Z,Q,A⟩;have A:Box V L [D] 39:=A;obtain ⟨P,a⟩:=Et O Q;refine Ef rfl (eff_box rfl rfl) ?_;rintro _ T ⟨K,rfl,W,X,J,B⟩;have B:Box T K [E] 39:=B;obtain ⟨C,b⟩:=Et P J;have A:=A.ext J;refine Ro 6 (Yl rfl (yfa rfl fo_39_0) (Yl rfl (ylb rfl ag_37 A rfl) (Yl rfl (yfa rfl fo_39_0) (Yl rfl (ylb rfl ag_37 B rfl) ?_))));obtain ⟨d,R,hF⟩:=bsome hF;refine Ef rfl (eca rfl gf_141 (W_laws_eqCellS R (by omega) (M.oh hH C) (N.oh hH C) :)) ?_;rintro _ e ⟨rfl,S⟩;obtain ⟨I,c⟩:=Et C S;refine Ro 3 (Wc rfl hF ?_ ?_)
  · intro hF;refine Rc 7 ?_;obtain rfl:=szs hF;exact Ne rfl rfl ⟨_,rfl,rfl,I⟩
  · intro hF;refine Rc 8 ?_;obtain rfl:=szs hF;exact Ne rfl rfl ⟨_,rfl,rfl,I⟩
def F_laws_eqInstance (n:Nat) (a0:S_Instance) (a1:S_Instance):Option Bool:=(bif (a0.Name.toList != a1.Name.toList) then (some false) else (bif (a0.Cell != a1.Cell) then (some false) else (Option.bind (F_laws_eqInt64S n a0.Nets a1.Nets) fun r19=>(bif (!r19) then (some false) else (some true)))))
theorem W_laws_eqInstance {n:Nat} {B:S_Instance} {C:S_Instance} {r:Bool} {w:World} {F:Value} {G:Value} {H:Nat} (hF:F_laws_eqInstance n B C = some r) (hH:H ≤ w.heap.size) (M:slRep (cInt .i64) w (Iv 0 H) B.Nets F) (N:slRep (cInt .i64) w (Iv 0 H) C.Nets G) :
    Calls Tryz.prog 197 [.agg #[.string B.Name,.int .i64 B.Cell,F],.agg #[.string C.Name,.int .i64 C.Cell,G]].toArray w (Ret fun u U => u = .bool r∧Ext w U):=by
  refine calls_ofD Tryz.func197 rfl Tryz.ntmps197 ?_;have O:Ext w w:=Ext.refl w;unfold F_laws_eqInstance at hF;refine Rc 2 (Ef rfl (eff_box rfl rfl) ?_);rintro _ V ⟨L,rfl,Y,Z,Q,A⟩;have A:Box V L [.string B.Name,.int .i64 B.Cell,F] 162:=A;obtain ⟨P,a⟩:=Et O Q;refine Ef rfl (eff_box rfl rfl) ?_;rintro _ T ⟨K,rfl,W,X,J,D⟩;have D:Box T K [.string C.Name,.int .i64 C.Cell,G] 162:=D;obtain ⟨E,b⟩:=Et P J;have A:=A.ext J;refine Ro 6 (Yl rfl (yfa rfl fo_162_0) (Yl rfl (ylb rfl ag_9 A rfl) (Yl rfl (yfa rfl fo_162_0) (Yl rfl (ylb rfl ag_9 D rfl) (Ro 3 (Wc rfl hF ?_ ?_))))))
  · intro hF;refine Rc 7 ?_;obtain rfl:=szs hF;exact Ne rfl rfl ⟨_,rfl,rfl,E⟩
  · intro hF;refine Rc 5 (Yl rfl (yfa rfl fo_162_1) (Yl rfl (ylb rfl ag_2 A rfl) (Yl rfl (yfa rfl fo_162_1) (Yl rfl (ylb rfl ag_2 D rfl) (Ro 3 (Wc rfl hF ?_ ?_))))))
    · intro hF;refine Rc 7 ?_;obtain rfl:=szs hF;exact Ne rfl rfl ⟨_,rfl,rfl,E⟩
    · intro hF;refine Rc 5 (Yl rfl (yfa rfl fo_162_2) (Yl rfl (ylb rfl ag_75 A rfl) (Yl rfl (yfa rfl fo_162_2) (Yl rfl (ylb rfl ag_75 D rfl) ?_))));obtain ⟨d,R,hF⟩:=bsome hF;refine Ef rfl (eca rfl gf_35 (W_laws_eqInt64S R (by omega) (M.oh hH E) (N.oh hH E) :)) ?_;rintro _ e ⟨rfl,S⟩;obtain ⟨I,c⟩:=Et E S;refine Ro 3 (Wc rfl hF ?_ ?_)
      · intro hF;refine Rc 7 ?_;obtain rfl:=szs hF;exact Ne rfl rfl ⟨_,rfl,rfl,I⟩
      · intro hF;refine Rc 8 ?_;obtain rfl:=szs hF;exact Ne rfl rfl ⟨_,rfl,rfl,I⟩
def F_laws_eqInstanceS_L1 (n:Nat) (a0:List S_Instance) (a1:List S_Instance) (k0:Int→Option Bool):Nat→Int→Option Bool
  | 0, _=>none
  | m + 1, i7=>(bif decide (i7 < (a0.length:Int)) then (Option.bind (getI a0 i7) fun x8=>(Option.bind (getI a1 i7) fun x18=>(Option.bind (F_laws_eqInstance n x8 x18) fun r28=>(bif (!r28) then (some false) else (F_laws_eqInstanceS_L1 n a0 a1 k0 m (IntKind.wrap .i64 (i7 + 1))))))) else (k0 i7))
def F_laws_eqInstanceS (n:Nat) (a0:List S_Instance) (a1:List S_Instance):Option Bool:=(bif (((a0.length:Int)) != ((a1.length:Int))) then (some false) else (F_laws_eqInstanceS_L1 n a0 a1 (fun i7=>(some true)) n 0))
theorem W_laws_eqInstanceS {n:Nat} {E:List S_Instance} {F:List S_Instance} {r:Bool} {w:World} {I:Value} {J:Value} {H:Nat} (hF:F_laws_eqInstanceS n E F = some r) (hH:H ≤ w.heap.size) (G:slRep C_Instance w (Iv 0 H) E I) (K:slRep C_Instance w (Iv 0 H) F J) :
    Calls Tryz.prog 142 [I,J].toArray w (Ret fun u b => u = .bool r∧Ext w b):=by
  refine calls_ofD Tryz.func142 rfl Tryz.ntmps142 ?_;have D:Ext w w:=Ext.refl w;unfold F_laws_eqInstanceS at hF;refine Rc 9 (Yl rfl (yle rfl Tryz.underlying40 (G.oh hH D)) (Ro 1 (Yl rfl (yle rfl Tryz.underlying40 (K.oh hH D)) (Ro 3 (Wc rfl hF ?_ ?_)))))
  · intro hF;refine Rc 7 ?_;obtain rfl:=szs hF;exact Ne rfl rfl ⟨_,rfl,rfl,D⟩
  · intro hF;refine Rc 9 ?_;refine WC.loopD (fun C a wl => ∃ (B:Int),Kn 27 [(0,I),(1,J),(5,.int .i64 B)] a∧Ext w wl∧w.heap.size ≤ wl.heap.size∧F_laws_eqInstanceS_L1 n E F (fun B => (some true)) C B = some r) n ?_ ?_
    · intro a hK;exact ⟨0,hK.sub rfl,D,Nat.le_refl _,hF⟩
    · rintro C a p ⟨B,hK,A,h,hF⟩;revert a;change WC _ _ _ _ _ _
      cases C with
      | zero => exact nos hF
      | succ C =>
        rw [F_laws_eqInstanceS_L1.eq_2] at hF;refine Rc 5 (Yl rfl (yle rfl Tryz.underlying40 (G.oh hH A)) (Ro 3 (Wc rfl hF ?_ ?_)))
        · intro hF;refine Rc 5 (WC.quiet Tryz.hm (by kernel_rfl) (Qr 2 ?_));obtain ⟨M,W,hF⟩:=bsome hF;refine Qe rfl (yix rfl Tryz.underlying40 cn_162 (G.oh hH A) W) ?_;rintro _ ⟨c,i,l,rfl,e,Q,O⟩;obtain ⟨Y,rfl,T⟩:=C_Instance_open Q;refine Qy rfl (yln (us:=[.string M.Name,.int .i64 M.Cell,Y]) rfl ag_162 O cn_162) (Qr 2 ?_);obtain ⟨N,X,hF⟩:=bsome hF;refine Qe rfl (yix rfl Tryz.underlying40 cn_162 (K.oh hH A) X) ?_;rintro _ ⟨d,j,m,rfl,f,R,P⟩;obtain ⟨Z,rfl,U⟩:=C_Instance_open R;refine Qy rfl (yln (us:=[.string N.Name,.int .i64 N.Cell,Z]) rfl ag_162 P cn_162) ?_;obtain ⟨k,S,hF⟩:=bsome hF;refine Ql rfl (qca rfl gf_197 fun w' hw' => (W_laws_eqInstance S (Nat.le_trans (by omega) (hw').size) (T.old hw' (by omega)) (U.old hw' (by omega)) :)) ?_;refine Qr 1 ?_;refine QL.done fun o V => ?_;obtain ⟨L,g⟩:=Et A V;refine Re 1 (Wc rfl hF ?_ ?_)
          · intro hF;refine Rc 11 ?_;obtain rfl:=szs hF;exact Ne rfl rfl ⟨_,rfl,rfl,L⟩
          · intro hF;refine Rc 9 ?_;intro a hK;exact ⟨C,Nat.le.refl,(IntKind.wrap .i64 (B + 1)),hK.sub rfl,L,(by omega),hF⟩
        · intro hF;refine Rc 11 ?_;obtain rfl:=szs hF;exact Ne rfl rfl ⟨_,rfl,rfl,A⟩
def F_laws_eqStringS_L1 (a0:List ByteArray) (a1:List ByteArray) (k0:Int→Option Bool):Nat→Int→Option Bool
  | 0, _=>none
  | m + 1, i7=>(bif decide (i7 < (a0.length:Int)) then (Option.bind (getI a0 i7) fun x8=>(Option.bind (getI a1 i7) fun x16=>(bif (x8.toList != x16.toList) then (some false) else (F_laws_eqStringS_L1 a0 a1 k0 m (IntKind.wrap .i64 (i7 + 1)))))) else (k0 i7))
def F_laws_eqStringS (n:Nat) (a0:List ByteArray) (a1:List ByteArray):Option Bool:=(bif (((a0.length:Int)) != ((a1.length:Int))) then (some false) else (F_laws_eqStringS_L1 a0 a1 (fun i7=>(some true)) n 0))
theorem W_laws_eqStringS {n:Nat} {E:List ByteArray} {F:List ByteArray} {r:Bool} {w:World} {I:Value} {J:Value} {H:Nat} (hF:F_laws_eqStringS n E F = some r) (hH:H ≤ w.heap.size) (G:slRep cStr w (Iv 0 H) E I) (K:slRep cStr w (Iv 0 H) F J) :
    Calls Tryz.prog 143 [I,J].toArray w (Ret fun u R => u = .bool r∧Ext w R):=by
  refine calls_ofD Tryz.func143 rfl Tryz.ntmps143 ?_;have D:Ext w w:=Ext.refl w;unfold F_laws_eqStringS at hF;refine Rc 9 (Yl rfl (yle rfl Tryz.underlying26 (G.oh hH D)) (Ro 1 (Yl rfl (yle rfl Tryz.underlying26 (K.oh hH D)) (Ro 3 (Wc rfl hF ?_ ?_)))))
  · intro hF;refine Rc 7 ?_;obtain rfl:=szs hF;exact Ne rfl rfl ⟨_,rfl,rfl,D⟩
  · intro hF;refine Rc 9 ?_;refine WC.loopD (fun C a wl => ∃ (B:Int),Kn 26 [(0,I),(1,J),(5,.int .i64 B)] a∧Ext w wl∧w.heap.size ≤ wl.heap.size∧F_laws_eqStringS_L1 E F (fun B => (some true)) C B = some r) n ?_ ?_
    · intro a hK;exact ⟨0,hK.sub rfl,D,Nat.le_refl _,hF⟩
    · rintro C a c ⟨B,hK,A,X,hF⟩;revert a;change WC _ _ _ _ _ _
      cases C with
      | zero => exact nos hF
      | succ C =>
        rw [F_laws_eqStringS_L1.eq_2] at hF;refine Rc 5 (Yl rfl (yle rfl Tryz.underlying26 (G.oh hH A)) (Ro 3 (Wc rfl hF ?_ ?_)))
        · intro hF;refine Rc 5 (WC.quiet Tryz.hm (by kernel_rfl) (Qr 2 ?_));obtain ⟨d,P,hF⟩:=bsome hF;refine Qe rfl (yix rfl Tryz.underlying26 cn_9 (G.oh hH A) P) ?_;rintro _ ⟨S,Y,_,rfl,U,rfl,M⟩;refine Qy rfl (ylc 0 rfl ag_9 M rfl rfl) (Qr 2 ?_);obtain ⟨e,Q,hF⟩:=bsome hF;refine Qe rfl (yix rfl Tryz.underlying26 cn_9 (K.oh hH A) Q) ?_;rintro _ ⟨T,Z,_,rfl,V,rfl,N⟩;refine Qy rfl (ylc 0 rfl ag_9 N rfl rfl) (Qr 1 ?_);refine QL.done fun b O => ?_;obtain ⟨L,W⟩:=Et A O;refine Re 1 (Wc rfl hF ?_ ?_)
          · intro hF;refine Rc 11 ?_;obtain rfl:=szs hF;exact Ne rfl rfl ⟨_,rfl,rfl,L⟩
          · intro hF;refine Rc 9 ?_;intro a hK;exact ⟨C,Nat.le.refl,(IntKind.wrap .i64 (B + 1)),hK.sub rfl,L,(by omega),hF⟩
        · intro hF;refine Rc 11 ?_;obtain rfl:=szs hF;exact Ne rfl rfl ⟨_,rfl,rfl,A⟩
def F_laws_eqPort (n:Nat) (a0:S_Port) (a1:S_Port):Option Bool:=(bif (a0.Name.toList != a1.Name.toList) then (some false) else (bif (a0.Dir != a1.Dir) then (some false) else (bif (a0.Net != a1.Net) then (some false) else (some true))))
theorem W_laws_eqPort {n:Nat} {A:S_Port} {B:S_Port} {r:Bool} {w:World} (hF:F_laws_eqPort n A B = some r) :
    Calls Tryz.prog 198 [.agg #[.string A.Name,.int .i64 A.Dir,.int .i64 A.Net],.agg #[.string B.Name,.int .i64 B.Dir,.int .i64 B.Net]].toArray w (Ret fun u F => u = .bool r∧Ext w F):=by
  refine calls_ofD Tryz.func198 rfl Tryz.ntmps198 ?_;have J:Ext w w:=Ext.refl w;unfold F_laws_eqPort at hF;refine Rc 2 (Ef rfl (eff_box rfl rfl) ?_);rintro _ F ⟨H,rfl,P,Q,L,C⟩;have C:Box F H [.string A.Name,.int .i64 A.Dir,.int .i64 A.Net] 245:=C;obtain ⟨K,S⟩:=Et J L;refine Ef rfl (eff_box rfl rfl) ?_;rintro _ M ⟨I,rfl,N,O,G,D⟩;have D:Box M I [.string B.Name,.int .i64 B.Dir,.int .i64 B.Net] 245:=D;obtain ⟨E,R⟩:=Et K G;have C:=C.ext G;refine Ro 6 (Yl rfl (yfa rfl fo_245_0) (Yl rfl (ylb rfl ag_9 C rfl) (Yl rfl (yfa rfl fo_245_0) (Yl rfl (ylb rfl ag_9 D rfl) (Ro 3 (Wc rfl hF ?_ ?_))))))
  · intro hF;refine Rc 7 ?_;obtain rfl:=szs hF;exact Ne rfl rfl ⟨_,rfl,rfl,E⟩
  · intro hF;refine Rc 5 (Yl rfl (yfa rfl fo_245_1) (Yl rfl (ylb rfl ag_2 C rfl) (Yl rfl (yfa rfl fo_245_1) (Yl rfl (ylb rfl ag_2 D rfl) (Ro 3 (Wc rfl hF ?_ ?_))))))
    · intro hF;refine Rc 7 ?_;obtain rfl:=szs hF;exact Ne rfl rfl ⟨_,rfl,rfl,E⟩
    · intro hF;refine Rc 5 (Yl rfl (yfa rfl fo_245_2) (Yl rfl (ylb rfl ag_2 C rfl) (Yl rfl (yfa rfl fo_245_2) (Yl rfl (ylb rfl ag_2 D rfl) (Ro 3 (Wc rfl hF ?_ ?_))))))
      · intro hF;refine Rc 7 ?_;obtain rfl:=szs hF;exact Ne rfl rfl ⟨_,rfl,rfl,E⟩
      · intro hF;refine Rc 8 ?_;obtain rfl:=szs hF;exact Ne rfl rfl ⟨_,rfl,rfl,E⟩
def F_laws_eqPortS_L1 (n:Nat) (a0:List S_Port) (a1:List S_Port) (k0:Int→Option Bool):Nat→Int→Option Bool
  | 0, _=>none
  | m + 1, i7=>(bif decide (i7 < (a0.length:Int)) then (Option.bind (getI a0 i7) fun x8=>(Option.bind (getI a1 i7) fun x16=>(Option.bind (F_laws_eqPort n x8 x16) fun r24=>(bif (!r24) then (some false) else (F_laws_eqPortS_L1 n a0 a1 k0 m (IntKind.wrap .i64 (i7 + 1))))))) else (k0 i7))
def F_laws_eqPortS (n:Nat) (a0:List S_Port) (a1:List S_Port):Option Bool:=(bif (((a0.length:Int)) != ((a1.length:Int))) then (some false) else (F_laws_eqPortS_L1 n a0 a1 (fun i7=>(some true)) n 0))
theorem W_laws_eqPortS {n:Nat} {E:List S_Port} {F:List S_Port} {r:Bool} {w:World} {I:Value} {J:Value} {H:Nat} (hF:F_laws_eqPortS n E F = some r) (hH:H ≤ w.heap.size) (G:slRep C_Port w (Iv 0 H) E I) (M:slRep C_Port w (Iv 0 H) F J) :
    Calls Tryz.prog 144 [I,J].toArray w (Ret fun u W => u = .bool r∧Ext w W):=by
  refine calls_ofD Tryz.func144 rfl Tryz.ntmps144 ?_;have D:Ext w w:=Ext.refl w;unfold F_laws_eqPortS at hF;refine Rc 9 (Yl rfl (yle rfl Tryz.underlying41 (G.oh hH D)) (Ro 1 (Yl rfl (yle rfl Tryz.underlying41 (M.oh hH D)) (Ro 3 (Wc rfl hF ?_ ?_)))))
  · intro hF;refine Rc 7 ?_;obtain rfl:=szs hF;exact Ne rfl rfl ⟨_,rfl,rfl,D⟩
  · intro hF;refine Rc 9 ?_;refine WC.loopD (fun C a wl => ∃ (B:Int),Kn 27 [(0,I),(1,J),(5,.int .i64 B)] a∧Ext w wl∧w.heap.size ≤ wl.heap.size∧F_laws_eqPortS_L1 n E F (fun B => (some true)) C B = some r) n ?_ ?_
    · intro a hK;exact ⟨0,hK.sub rfl,D,Nat.le_refl _,hF⟩
    · rintro C a k ⟨B,hK,A,d,hF⟩;revert a;change WC _ _ _ _ _ _
      cases C with
      | zero => exact nos hF
      | succ C =>
        rw [F_laws_eqPortS_L1.eq_2] at hF;refine Rc 5 (Yl rfl (yle rfl Tryz.underlying41 (G.oh hH A)) (Ro 3 (Wc rfl hF ?_ ?_)))
        · intro hF;refine Rc 5 (WC.quiet Tryz.hm (by kernel_rfl) (Qr 2 ?_));obtain ⟨K,U,hF⟩:=bsome hF;refine Qe rfl (yix rfl Tryz.underlying41 cn_245 (G.oh hH A) U) ?_;rintro _ ⟨X,e,h,rfl,Z,Q,O⟩;obtain rfl:=C_Port_open Q;refine Qy rfl (yln (us:=[.string K.Name,.int .i64 K.Dir,.int .i64 K.Net]) rfl ag_245 O cn_245) (Qr 2 ?_);obtain ⟨L,V,hF⟩:=bsome hF;refine Qe rfl (yix rfl Tryz.underlying41 cn_245 (M.oh hH A) V) ?_;rintro _ ⟨Y,f,i,rfl,b,R,P⟩;obtain rfl:=C_Port_open R;refine Qy rfl (yln (us:=[.string L.Name,.int .i64 L.Dir,.int .i64 L.Net]) rfl ag_245 P cn_245) ?_;obtain ⟨g,S,hF⟩:=bsome hF;refine Ql rfl (qca rfl gf_198 fun w' hw' => (W_laws_eqPort S :)) ?_;refine Qr 1 ?_;refine QL.done fun j T => ?_;obtain ⟨N,c⟩:=Et A T;refine Re 1 (Wc rfl hF ?_ ?_)
          · intro hF;refine Rc 11 ?_;obtain rfl:=szs hF;exact Ne rfl rfl ⟨_,rfl,rfl,N⟩
          · intro hF;refine Rc 9 ?_;intro a hK;exact ⟨C,Nat.le.refl,(IntKind.wrap .i64 (B + 1)),hK.sub rfl,N,(by omega),hF⟩
        · intro hF;refine Rc 11 ?_;obtain rfl:=szs hF;exact Ne rfl rfl ⟨_,rfl,rfl,A⟩
def F_laws_eqDesign (n:Nat) (a0:S_Design) (a1:S_Design):Option Bool:=(Option.bind (F_laws_eqInstanceS n a0.Instances a1.Instances) fun r27=>(bif (!r27) then (some false) else (Option.bind (F_laws_eqStringS n a0.Nets a1.Nets) fun r33=>(bif (!r33) then (some false) else (Option.bind (F_laws_eqPortS n a0.Ports a1.Ports) fun r39=>(bif (!r39) then (some false) else (some true)))))))
theorem W_laws_eqDesign {n:Nat} {C:S_Design} {D:S_Design} {r:Bool} {w:World} {K:Value} {M:Value} {N:Value} {O:Value} {P:Value} {L:Value} {H:Nat} (hF:F_laws_eqDesign n C D = some r) (hH:H ≤ w.heap.size) (W:slRep C_Instance w (Iv 0 H) C.Instances K) (X:slRep cStr w (Iv 0 H) C.Nets M) (Y:slRep C_Port w (Iv 0 H) C.Ports N) (Z:slRep C_Instance w (Iv 0 H) D.Instances O) (U:slRep cStr w (Iv 0 H) D.Nets P) (V:slRep C_Port w (Iv 0 H) D.Ports L) :
    Calls Tryz.prog 68 [.agg #[K,M,N],.agg #[O,P,L]].toArray w (Ret fun u i => u = .bool r∧Ext w i):=by
  refine calls_ofD Tryz.func68 rfl Tryz.ntmps68 ?_;have a:Ext w w:=Ext.refl w;unfold F_laws_eqDesign at hF;refine Rc 2 (Ef rfl (eff_box rfl rfl) ?_);rintro _ h ⟨S,rfl,k,l,c,A⟩;have A:Box h S [K,M,N] 43:=A;obtain ⟨b,p⟩:=Et a c;refine Ef rfl (eff_box rfl rfl) ?_;rintro _ j ⟨T,rfl,m,o,R,B⟩;have B:Box j T [O,P,L] 43:=B;obtain ⟨G,q⟩:=Et b R;have A:=A.ext R;refine Ro 6 (Yl rfl (yfa rfl fo_43_0) (Yl rfl (ylb rfl ag_40 A rfl) (Yl rfl (yfa rfl fo_43_0) (Yl rfl (ylb rfl ag_40 B rfl) ?_))));obtain ⟨x,d,hF⟩:=bsome hF;refine Ef rfl (eca rfl gf_142 (W_laws_eqInstanceS d (by omega) (W.oh hH G) (Z.oh hH G) :)) ?_;rintro _ A0 ⟨rfl,I⟩;obtain ⟨E,s⟩:=Et G I;have A:=A.ext I;have B:=B.ext I;refine Ro 3 (Wc rfl hF ?_ ?_)
  · intro hF;refine Rc 7 ?_;obtain rfl:=szs hF;exact Ne rfl rfl ⟨_,rfl,rfl,E⟩
  · intro hF;refine Rc 5 (Yl rfl (yfa rfl fo_43_1) (Yl rfl (ylb rfl ag_26 A rfl) (Yl rfl (yfa rfl fo_43_1) (Yl rfl (ylb rfl ag_26 B rfl) ?_))));obtain ⟨y,e,hF⟩:=bsome hF;refine Ef rfl (eca rfl gf_143 (W_laws_eqStringS e (by omega) (X.oh hH E) (U.oh hH E) :)) ?_;rintro _ B0 ⟨rfl,J⟩;obtain ⟨F,t⟩:=Et E J;have A:=A.ext J;have B:=B.ext J;refine Ro 3 (Wc rfl hF ?_ ?_)
    · intro hF;refine Rc 7 ?_;obtain rfl:=szs hF;exact Ne rfl rfl ⟨_,rfl,rfl,F⟩
    · intro hF;refine Rc 5 (Yl rfl (yfa rfl fo_43_2) (Yl rfl (ylb rfl ag_41 A rfl) (Yl rfl (yfa rfl fo_43_2) (Yl rfl (ylb rfl ag_41 B rfl) ?_))));obtain ⟨z,f,hF⟩:=bsome hF;refine Ef rfl (eca rfl gf_144 (W_laws_eqPortS f (by omega) (Y.oh hH F) (V.oh hH F) :)) ?_;rintro _ C0 ⟨rfl,g⟩;obtain ⟨Q,v⟩:=Et F g;refine Ro 3 (Wc rfl hF ?_ ?_)
      · intro hF;refine Rc 7 ?_;obtain rfl:=szs hF;exact Ne rfl rfl ⟨_,rfl,rfl,Q⟩
      · intro hF;refine Rc 8 ?_;obtain rfl:=szs hF;exact Ne rfl rfl ⟨_,rfl,rfl,Q⟩
def F_laws_eqWire (n:Nat) (a0:S_Wire) (a1:S_Wire):Option Bool:=(Option.bind (F_laws_eqInt64S n a0.Parent a1.Parent) fun r31=>(bif (!r31) then (some false) else (Option.bind (F_laws_eqInt64S n a0.Res a1.Res) fun r37=>(bif (!r37) then (some false) else (Option.bind (F_laws_eqInt64S n a0.Cap a1.Cap) fun r43=>(bif (!r43) then (some false) else (Option.bind (F_laws_eqInt64S n a0.Sink a1.Sink) fun r49=>(bif (!r49) then (some false) else (some true)))))))))
theorem W_laws_eqWire {n:Nat} {C:S_Wire} {D:S_Wire} {r:Bool} {w:World} {M:Value} {Q:Value} {R:Value} {S:Value} {T:Value} {N:Value} {O:Value} {P:Value} {H:Nat} (hF:F_laws_eqWire n C D = some r) (hH:H ≤ w.heap.size) (c:slRep (cInt .i64) w (Iv 0 H) C.Parent M) (d:slRep (cInt .i64) w (Iv 0 H) C.Res Q) (e:slRep (cInt .i64) w (Iv 0 H) C.Cap R) (f:slRep (cInt .i64) w (Iv 0 H) C.Sink S) (Y:slRep (cInt .i64) w (Iv 0 H) D.Parent T) (Z:slRep (cInt .i64) w (Iv 0 H) D.Res N) (a:slRep (cInt .i64) w (Iv 0 H) D.Cap O) (b:slRep (cInt .i64) w (Iv 0 H) D.Sink P) :
    Calls Tryz.prog 145 [.agg #[M,Q,R,S],.agg #[T,N,O,P]].toArray w (Ret fun u q => u = .bool r∧Ext w q):=by
  refine calls_ofD Tryz.func145 rfl Tryz.ntmps145 ?_;have g:Ext w w:=Ext.refl w;unfold F_laws_eqWire at hF;refine Rc 2 (Ef rfl (eff_box rfl rfl) ?_);rintro _ p ⟨W,rfl,t,v,i,A⟩;have A:Box p W [M,Q,R,S] 205:=A;obtain ⟨h,z⟩:=Et g i;refine Ef rfl (eff_box rfl rfl) ?_;rintro _ s ⟨X,rfl,x,y,V,B⟩;have B:Box s X [T,N,O,P] 205:=B;obtain ⟨I,A0⟩:=Et h V;have A:=A.ext V;refine Ro 6 (Yl rfl (yfa rfl fo_205_0) (Yl rfl (ylb rfl ag_75 A rfl) (Yl rfl (yfa rfl fo_205_0) (Yl rfl (ylb rfl ag_75 B rfl) ?_))));obtain ⟨F0,j,hF⟩:=bsome hF;refine Ef rfl (eca rfl gf_35 (W_laws_eqInt64S j (by omega) (c.oh hH I) (Y.oh hH I) :)) ?_;rintro _ J0 ⟨rfl,J⟩;obtain ⟨E,B0⟩:=Et I J;have A:=A.ext J;have B:=B.ext J;refine Ro 3 (Wc rfl hF ?_ ?_)
  · intro hF;refine Rc 7 ?_;obtain rfl:=szs hF;exact Ne rfl rfl ⟨_,rfl,rfl,E⟩
  · intro hF;refine Rc 5 (Yl rfl (yfa rfl fo_205_1) (Yl rfl (ylb rfl ag_75 A rfl) (Yl rfl (yfa rfl fo_205_1) (Yl rfl (ylb rfl ag_75 B rfl) ?_))));obtain ⟨G0,k,hF⟩:=bsome hF;refine Ef rfl (eca rfl gf_35 (W_laws_eqInt64S k (by omega) (d.oh hH E) (Z.oh hH E) :)) ?_;rintro _ K0 ⟨rfl,K⟩;obtain ⟨F,C0⟩:=Et E K;have A:=A.ext K;have B:=B.ext K;refine Ro 3 (Wc rfl hF ?_ ?_)
    · intro hF;refine Rc 7 ?_;obtain rfl:=szs hF;exact Ne rfl rfl ⟨_,rfl,rfl,F⟩
    · intro hF;refine Rc 5 (Yl rfl (yfa rfl fo_205_2) (Yl rfl (ylb rfl ag_75 A rfl) (Yl rfl (yfa rfl fo_205_2) (Yl rfl (ylb rfl ag_75 B rfl) ?_))));obtain ⟨H0,l,hF⟩:=bsome hF;refine Ef rfl (eca rfl gf_35 (W_laws_eqInt64S l (by omega) (e.oh hH F) (a.oh hH F) :)) ?_;rintro _ L0 ⟨rfl,L⟩;obtain ⟨G,D0⟩:=Et F L;have A:=A.ext L;have B:=B.ext L;refine Ro 3 (Wc rfl hF ?_ ?_)
      · intro hF;refine Rc 7 ?_;obtain rfl:=szs hF;exact Ne rfl rfl ⟨_,rfl,rfl,G⟩
      · intro hF;refine Rc 5 (Yl rfl (yfa rfl fo_205_3) (Yl rfl (ylb rfl ag_75 A rfl) (Yl rfl (yfa rfl fo_205_3) (Yl rfl (ylb rfl ag_75 B rfl) ?_))));obtain ⟨I0,m,hF⟩:=bsome hF;refine Ef rfl (eca rfl gf_35 (W_laws_eqInt64S m (by omega) (f.oh hH G) (b.oh hH G) :)) ?_;rintro _ M0 ⟨rfl,o⟩;obtain ⟨U,E0⟩:=Et G o;refine Ro 3 (Wc rfl hF ?_ ?_)
        · intro hF;refine Rc 7 ?_;obtain rfl:=szs hF;exact Ne rfl rfl ⟨_,rfl,rfl,U⟩
        · intro hF;refine Rc 8 ?_;obtain rfl:=szs hF;exact Ne rfl rfl ⟨_,rfl,rfl,U⟩
def F_laws_eqWireS_L1 (n:Nat) (a0:List S_Wire) (a1:List S_Wire) (k0:Int→Option Bool):Nat→Int→Option Bool
  | 0, _=>none
  | m + 1, i7=>(bif decide (i7 < (a0.length:Int)) then (Option.bind (getI a0 i7) fun x8=>(Option.bind (getI a1 i7) fun x24=>(Option.bind (F_laws_eqWire n x8 x24) fun r40=>(bif (!r40) then (some false) else (F_laws_eqWireS_L1 n a0 a1 k0 m (IntKind.wrap .i64 (i7 + 1))))))) else (k0 i7))
def F_laws_eqWireS (n:Nat) (a0:List S_Wire) (a1:List S_Wire):Option Bool:=(bif (((a0.length:Int)) != ((a1.length:Int))) then (some false) else (F_laws_eqWireS_L1 n a0 a1 (fun i7=>(some true)) n 0))
theorem W_laws_eqWireS {n:Nat} {E:List S_Wire} {F:List S_Wire} {r:Bool} {w:World} {I:Value} {J:Value} {H:Nat} (hF:F_laws_eqWireS n E F = some r) (hH:H ≤ w.heap.size) (G:slRep C_Wire w (Iv 0 H) E I) (K:slRep C_Wire w (Iv 0 H) F J) :
    Calls Tryz.prog 69 [I,J].toArray w (Ret fun u l => u = .bool r∧Ext w l):=by
  refine calls_ofD Tryz.func69 rfl Tryz.ntmps69 ?_;have D:Ext w w:=Ext.refl w;unfold F_laws_eqWireS at hF;refine Rc 9 (Yl rfl (yle rfl Tryz.underlying44 (G.oh hH D)) (Ro 1 (Yl rfl (yle rfl Tryz.underlying44 (K.oh hH D)) (Ro 3 (Wc rfl hF ?_ ?_)))))
  · intro hF;refine Rc 7 ?_;obtain rfl:=szs hF;exact Ne rfl rfl ⟨_,rfl,rfl,D⟩
  · intro hF;refine Rc 9 ?_;refine WC.loopD (fun C a wl => ∃ (B:Int),Kn 27 [(0,I),(1,J),(5,.int .i64 B)] a∧Ext w wl∧w.heap.size ≤ wl.heap.size∧F_laws_eqWireS_L1 n E F (fun B => (some true)) C B = some r) n ?_ ?_
    · intro a hK;exact ⟨0,hK.sub rfl,D,Nat.le_refl _,hF⟩
    · rintro C a C0 ⟨B,hK,A,t,hF⟩;revert a;change WC _ _ _ _ _ _
      cases C with
      | zero => exact nos hF
      | succ C =>
        rw [F_laws_eqWireS_L1.eq_2] at hF;refine Rc 5 (Yl rfl (yle rfl Tryz.underlying44 (G.oh hH A)) (Ro 3 (Wc rfl hF ?_ ?_)))
        · intro hF;refine Rc 5 (WC.quiet Tryz.hm (by kernel_rfl) (Qr 2 ?_));obtain ⟨D0,b,hF⟩:=bsome hF;refine Qe rfl (yix rfl Tryz.underlying44 cn_205 (G.oh hH A) b) ?_;rintro _ ⟨m,v,z,rfl,p,O,M⟩;obtain ⟨d,e,f,g,rfl,R,S,T,U⟩:=C_Wire_open O;refine Qy rfl (yln (us:=[d,e,f,g]) rfl ag_205 M cn_205) (Qr 2 ?_);obtain ⟨E0,c,hF⟩:=bsome hF;refine Qe rfl (yix rfl Tryz.underlying44 cn_205 (K.oh hH A) c) ?_;rintro _ ⟨o,x,A0,rfl,q,P,N⟩;obtain ⟨h,i,j,k,rfl,V,W,X,Y⟩:=C_Wire_open P;refine Qy rfl (yln (us:=[h,i,j,k]) rfl ag_205 N cn_205) ?_;obtain ⟨y,Q,hF⟩:=bsome hF;refine Ql rfl (qca rfl gf_145 fun w' hw' => (W_laws_eqWire Q (Nat.le_trans (by omega) (hw').size) (R.old hw' (by omega)) (S.old hw' (by omega)) (T.old hw' (by omega)) (U.old hw' (by omega)) (V.old hw' (by omega)) (W.old hw' (by omega)) (X.old hw' (by omega)) (Y.old hw' (by omega)) :)) ?_;refine Qr 1 ?_;refine QL.done fun B0 Z => ?_;obtain ⟨L,s⟩:=Et A Z;refine Re 1 (Wc rfl hF ?_ ?_)
          · intro hF;refine Rc 11 ?_;obtain rfl:=szs hF;exact Ne rfl rfl ⟨_,rfl,rfl,L⟩
          · intro hF;refine Rc 9 ?_;intro a hK;exact ⟨C,Nat.le.refl,(IntKind.wrap .i64 (B + 1)),hK.sub rfl,L,(by omega),hF⟩
        · intro hF;refine Rc 11 ?_;obtain rfl:=szs hF;exact Ne rfl rfl ⟨_,rfl,rfl,A⟩
def F_laws_eqBlock (n:Nat) (a0:S_Block) (a1:S_Block):Option Bool:=(Option.bind (F_laws_eqLibrary n a0.Library a1.Library) fun r35=>(bif (!r35) then (some false) else (Option.bind (F_laws_eqDesign n a0.Design a1.Design) fun r41=>(bif (!r41) then (some false) else (Option.bind (F_laws_eqWireS n a0.Wires a1.Wires) fun r47=>(bif (!r47) then (some false) else (some true)))))))
theorem W_laws_eqBlock {n:Nat} {D:S_Block} {E:S_Block} {r:Bool} {w:World} {F:Value} {L:Value} {M:Value} {N:Value} {T:Value} {G:Value} {I:Value} {J:Value} {K:Value} {S:Value} {H:Nat} (hF:F_laws_eqBlock n D E = some r) (hH:H ≤ w.heap.size) (d:slRep C_Cell w (Iv 0 H) D.Library.Cells F) (f:slRep C_Instance w (Iv 0 H) D.Design.Instances L) (g:slRep cStr w (Iv 0 H) D.Design.Nets M) (h:slRep C_Port w (Iv 0 H) D.Design.Ports N) (Y:slRep C_Wire w (Iv 0 H) D.Wires T) (Z:slRep C_Cell w (Iv 0 H) E.Library.Cells G) (a:slRep C_Instance w (Iv 0 H) E.Design.Instances I) (b:slRep cStr w (Iv 0 H) E.Design.Nets J) (c:slRep C_Port w (Iv 0 H) E.Design.Ports K) (e:slRep C_Wire w (Iv 0 H) E.Wires S) :
    Calls Tryz.prog 20 [.agg #[F,L,M,N,T],.agg #[G,I,J,K,S]].toArray w (Ret fun u q => u = .bool r∧Ext w q):=by
  refine calls_ofD Tryz.func20 rfl Tryz.ntmps20 ?_;have i:Ext w w:=Ext.refl w;unfold F_laws_eqBlock at hF;refine Rc 2 (Ef rfl (eff_box rfl rfl) ?_);rintro _ s ⟨W,rfl,v,x,k,A⟩;have A:Box s W [F,L,M,N,T] 46:=A;obtain ⟨j,A0⟩:=Et i k;refine Ef rfl (eff_box rfl rfl) ?_;rintro _ t ⟨X,rfl,y,z,V,B⟩;have B:Box t X [G,I,J,K,S] 46:=B;obtain ⟨P,B0⟩:=Et j V;have A:=A.ext V;refine Ro 6 (Yl rfl (yfa rfl fo_46_0) (Yl rfl (yln (us:=[F]) rfl ag_39 (CellsAt.sub (Box.cells A) 0 1:CellsAt _ _ _ [F]) cn_39) (Yl rfl (yfa rfl fo_46_0) (Yl rfl (yln (us:=[G]) rfl ag_39 (CellsAt.sub (Box.cells B) 0 1:CellsAt _ _ _ [G]) cn_39) ?_))));obtain ⟨F0,l,hF⟩:=bsome hF;refine Ef rfl (eca rfl gf_67 (W_laws_eqLibrary l (by omega) (d.oh hH P) (Z.oh hH P) :)) ?_;rintro _ I0 ⟨rfl,Q⟩;obtain ⟨C,C0⟩:=Et P Q;have A:=A.ext Q;have B:=B.ext Q;refine Ro 3 (Wc rfl hF ?_ ?_)
  · intro hF;refine Rc 7 ?_;obtain rfl:=szs hF;exact Ne rfl rfl ⟨_,rfl,rfl,C⟩
  · intro hF;refine Rc 5 (Yl rfl (yfa rfl fo_46_1) (Yl rfl (yln (us:=[L,M,N]) rfl ag_43 (CellsAt.sub (Box.cells A) 1 3:CellsAt _ _ _ [L,M,N]) cn_43) (Yl rfl (yfa rfl fo_46_1) (Yl rfl (yln (us:=[I,J,K]) rfl ag_43 (CellsAt.sub (Box.cells B) 1 3:CellsAt _ _ _ [I,J,K]) cn_43) ?_))));obtain ⟨G0,m,hF⟩:=bsome hF;refine Ef rfl (eca rfl gf_68 (W_laws_eqDesign m (by omega) (f.oh hH C) (g.oh hH C) (h.oh hH C) (a.oh hH C) (b.oh hH C) (c.oh hH C) :)) ?_;rintro _ J0 ⟨rfl,R⟩;obtain ⟨O,D0⟩:=Et C R;have A:=A.ext R;have B:=B.ext R;refine Ro 3 (Wc rfl hF ?_ ?_)
    · intro hF;refine Rc 7 ?_;obtain rfl:=szs hF;exact Ne rfl rfl ⟨_,rfl,rfl,O⟩
    · intro hF;refine Rc 5 (Yl rfl (yfa rfl fo_46_2) (Yl rfl (ylb rfl ag_44 A rfl) (Yl rfl (yfa rfl fo_46_2) (Yl rfl (ylb rfl ag_44 B rfl) ?_))));obtain ⟨H0,o,hF⟩:=bsome hF;refine Ef rfl (eca rfl gf_69 (W_laws_eqWireS o (by omega) (Y.oh hH O) (e.oh hH O) :)) ?_;rintro _ K0 ⟨rfl,p⟩;obtain ⟨U,E0⟩:=Et O p;refine Ro 3 (Wc rfl hF ?_ ?_)
      · intro hF;refine Rc 7 ?_;obtain rfl:=szs hF;exact Ne rfl rfl ⟨_,rfl,rfl,U⟩
      · intro hF;refine Rc 8 ?_;obtain rfl:=szs hF;exact Ne rfl rfl ⟨_,rfl,rfl,U⟩
def F_laws_szBoolS (n:Nat) (a0:List Bool) (a1:Int):Option Int:=(bif decide (IntKind.wrap .i64 (a1 - ((a0.length:Int))) < 0) then (some (-1)) else (some (IntKind.wrap .i64 (a1 - ((a0.length:Int))))))
theorem W_laws_szBoolS {n:Nat} {B:List Bool} {C:Int} {r:Int} {w:World} {D:Value} {H:Nat} (hF:F_laws_szBoolS n B C = some r) (hH:H ≤ w.heap.size) (E:slRep cBool w (Iv 0 H) B D) :
    Calls Tryz.prog 71 [D,.int .i64 C].toArray w (Ret fun u F => u = .int .i64 r∧Ext w F):=by
  refine calls_ofD Tryz.func71 rfl Tryz.ntmps71 ?_;have A:Ext w w:=Ext.refl w;unfold F_laws_szBoolS at hF;refine Rc 9 (Yl rfl (yle rfl Tryz.underlying53 (E.oh hH A)) (Ro 11 (Wc rfl hF ?_ ?_)))
  · intro hF;refine Rc 7 ?_;obtain rfl:=szs hF;exact Ne rfl rfl ⟨_,rfl,rfl,A⟩
  · intro hF;refine Rc 9 ?_;obtain rfl:=szs hF;exact Ne rfl rfl ⟨_,rfl,rfl,A⟩
def F_laws_szSpanS (n:Nat) (a0:List S_Span) (a1:Int):Option Int:=(bif decide (IntKind.wrap .i64 (a1 - ((a0.length:Int))) < 0) then (some (-1)) else (some (IntKind.wrap .i64 (a1 - ((a0.length:Int))))))
theorem W_laws_szSpanS {n:Nat} {B:List S_Span} {C:Int} {r:Int} {w:World} {D:Value} {H:Nat} (hF:F_laws_szSpanS n B C = some r) (hH:H ≤ w.heap.size) (E:slRep C_Span w (Iv 0 H) B D) :
    Calls Tryz.prog 72 [D,.int .i64 C].toArray w (Ret fun u F => u = .int .i64 r∧Ext w F):=by
  refine calls_ofD Tryz.func72 rfl Tryz.ntmps72 ?_;have A:Ext w w:=Ext.refl w;unfold F_laws_szSpanS at hF;refine Rc 9 (Yl rfl (yle rfl Tryz.underlying54 (E.oh hH A)) (Ro 11 (Wc rfl hF ?_ ?_)))
  · intro hF;refine Rc 7 ?_;obtain rfl:=szs hF;exact Ne rfl rfl ⟨_,rfl,rfl,A⟩
  · intro hF;refine Rc 9 ?_;obtain rfl:=szs hF;exact Ne rfl rfl ⟨_,rfl,rfl,A⟩
def F_laws_szNeeds (n:Nat) (a0:S_Needs) (a1:Int):Option Int:=(Option.bind (F_laws_szBoolS n a0.Bound a1) fun r12=>(bif decide (r12 < 0) then (some (-1)) else (Option.bind (F_laws_szSpanS n a0.Required r12) fun r18=>(bif decide (r18 < 0) then (some (-1)) else (some r18)))))
theorem W_laws_szNeeds {n:Nat} {B:S_Needs} {F:Int} {r:Int} {w:World} {D:Value} {E:Value} {H:Nat} (hF:F_laws_szNeeds n B F = some r) (hH:H ≤ w.heap.size) (L:slRep cBool w (Iv 0 H) B.Bound D) (M:slRep C_Span w (Iv 0 H) B.Required E) :
    Calls Tryz.prog 22 [.agg #[D,E],.int .i64 F].toArray w (Ret fun u S => u = .int .i64 r∧Ext w S):=by
  refine calls_ofD Tryz.func22 rfl Tryz.ntmps22 ?_;have N:Ext w w:=Ext.refl w;unfold F_laws_szNeeds at hF;refine Rc 2 (Ef rfl (eff_box rfl rfl) ?_);rintro _ T ⟨K,rfl,U,V,O,A⟩;have A:Box T K [D,E] 56:=A;obtain ⟨G,W⟩:=Et N O;refine Ro 5 (Yl rfl (yfa rfl fo_56_0) (Yl rfl (ylb rfl ag_53 A rfl) (Ro 1 ?_)));obtain ⟨Z,P,hF⟩:=bsome hF;refine Ef rfl (eca rfl gf_71 (W_laws_szBoolS P (by omega) (L.oh hH G) :)) ?_;rintro _ b ⟨rfl,J⟩;obtain ⟨C,X⟩:=Et G J;have A:=A.ext J;refine Ro 10 (Wc rfl hF ?_ ?_)
  · intro hF;refine Rc 7 ?_;obtain rfl:=szs hF;exact Ne rfl rfl ⟨_,rfl,rfl,C⟩
  · intro hF;refine Rc 4 (Yl rfl (yfa rfl fo_56_1) (Yl rfl (ylb rfl ag_54 A rfl) (Ro 1 ?_)));obtain ⟨a,Q,hF⟩:=bsome hF;refine Ef rfl (eca rfl gf_72 (W_laws_szSpanS Q (by omega) (M.oh hH C) :)) ?_;rintro _ c ⟨rfl,R⟩;obtain ⟨I,Y⟩:=Et C R;refine Ro 10 (Wc rfl hF ?_ ?_)
    · intro hF;refine Rc 7 ?_;obtain rfl:=szs hF;exact Ne rfl rfl ⟨_,rfl,rfl,I⟩
    · intro hF;refine Rc 9 ?_;obtain rfl:=szs hF;exact Ne rfl rfl ⟨_,rfl,rfl,I⟩
def F_laws_toBoolS_L1 (a0:List Bool) (k0:Int→(List Bool)→Option (List Bool)):Nat→Int→(List Bool)→Option (List Bool)
  | 0, _, _=>none
  | m + 1, i19, l20=>(bif decide (i19 < (a0.length:Int)) then (Option.bind (getI a0 i19) fun x22=>(Option.bind (getI l20 i19) fun x30=>(F_laws_toBoolS_L1 a0 k0 m (IntKind.wrap .i64 (i19 + 1)) ((l20.set (i19).toNat x22))))) else (k0 i19 l20))
def F_laws_toBoolS (n:Nat) (a0:List Bool):Option (List Bool):=(Option.bind (mkN ((a0.length:Int)) 1) fun n3=>(F_laws_toBoolS_L1 a0 (fun i19 l20=>(some l20)) n 0 (List.replicate n3 false)))
theorem W_laws_toBoolS {n:Nat} {E:List Bool} {r:List Bool} {w:World} {I:Value} {H:Nat} (hF:F_laws_toBoolS n E = some r) (hH:H ≤ w.heap.size) (F:slRep cBool w (Iv 0 H) E I) :
    Calls Tryz.prog 75 [I].toArray w (Ret fun u R => ∃ P,u = P∧ownR cBool R w.heap.size (Iv 0 0) 4 r P∧Ext w R):=by
  refine calls_ofD Tryz.func75 rfl Tryz.ntmps75 ?_;have K:Ext w w:=Ext.refl w;unfold F_laws_toBoolS at hF;refine Rc 8 (Yl rfl (yle rfl Tryz.underlying53 (F.oh hH K)) ?_);obtain ⟨i,Y,hF⟩:=bsome hF;refine Ef rfl (eff_make (c:=cBool) (z:=false) rfl Tryz.underlying53 in_4 rfl rfl rfl Y rfl rfl (fun _ => rfl)) ?_;rintro Q j ⟨S,N,o,q,f,b⟩;obtain ⟨W,s⟩:=Et K f;have T:=bd_of N;clear N;refine Ro 10 ?_;refine WC.loopD (fun C a wl => ∃ (A:Int) (B:List Bool),Kn 22 [(0,I),(3,Q),(4,.int .i64 A)] a∧Ext w wl∧j.heap.size ≤ wl.heap.size∧ownR cBool wl (S) (Iv 0 0) 4 B Q∧F_laws_toBoolS_L1 E (fun A B => (some B)) C A B = some r) n ?_ ?_
  · intro a hK;exact ⟨0,(List.replicate i false),hK.sub rfl,W,Nat.le_refl _,b,hF⟩
  · rintro C a A0 ⟨A,B,hK,D,t,G,hF⟩;revert a;change WC _ _ _ _ _ _
    cases C with
    | zero => exact nos hF
    | succ C =>
      rw [F_laws_toBoolS_L1.eq_2] at hF;refine Rc 5 (Yl rfl (yle rfl Tryz.underlying53 (F.oh hH D)) (Ro 3 (Wc rfl hF ?_ ?_)))
      · intro hF;refine Rc 9 ?_;obtain ⟨J,g,hF⟩:=bsome hF;refine Ye rfl (yix rfl Tryz.underlying53 cn_4 (F.oh hH D) g) ?_;rintro _ ⟨l,x,_,rfl,p,rfl,U⟩;refine Yl rfl (ylc 0 rfl ag_4 U rfl rfl) ?_;obtain ⟨C0,O,hF⟩:=bsome hF;refine Ye rfl (yio rfl Tryz.underlying53 cn_4 G O) ?_;rintro _ ⟨m,y,rfl,L,M,V⟩;have Z:=M;obtain rfl:=M;refine Ef rfl (eff_store_own (c:=cBool) (us':=[.bool J]) (y':=J) 0 _ rfl rfl rfl G L O rfl cn_4 rfl Z V rfl rfl rfl (fun k h => absurd h.2 (Nat.not_lt_zero k))) ?_;rintro _ B0 ⟨e,d⟩;obtain ⟨X,v⟩:=Eu D e (by have:=T _ L;omega);refine Ro 9 ?_;intro a hK;exact ⟨C,Nat.le.refl,(IntKind.wrap .i64 (A + 1)),((B.set (A).toNat J)),hK.sub rfl,X,(by omega),d,hF⟩
      · intro hF;refine Rc 12 ?_;obtain rfl:=szs hF;exact Ne rfl rfl ⟨_,rfl,_,rfl,ownR.base G (by omega),D⟩
def F_laws_toSpan (n:Nat) (a0:S_Span):Option S_Span:=(some a0)
theorem W_laws_toSpan {n:Nat} {A:S_Span} {r:S_Span} {w:World} (hF:F_laws_toSpan n A = some r) :
    Calls Tryz.prog 132 [.agg #[.int .i64 A.Early,.int .i64 A.Late]].toArray w (Ret fun u G => u = .agg #[.int .i64 r.Early,.int .i64 r.Late]∧Ext w G):=by
  refine calls_ofD Tryz.func132 rfl Tryz.ntmps132 ?_;have P:Ext w w:=Ext.refl w;unfold F_laws_toSpan at hF;refine Rc 2 (Ef rfl (eff_box rfl rfl) ?_);rintro _ G ⟨L,rfl,f,g,W,B⟩;have B:Box G L [.int .i64 A.Early,.int .i64 A.Late] 118:=B;obtain ⟨V,m⟩:=Et P W;refine Ef rfl (eff_alloc rfl zn_114) ?_;rintro _ p ⟨I,rfl,b,c,J,C⟩;obtain ⟨Q,h⟩:=Et V J;have B:=B.ext J;refine Ro 4 (Ef rfl (eff_alloc rfl zn_114) ?_);rintro _ o ⟨H,rfl,d,e,E,D⟩;obtain ⟨R,i⟩:=Et Q E;have B:=B.ext E;have C:=C.ext E;refine Ro 4 (Yl rfl (yfa rfl fo_118_0) (Yl rfl (ylb rfl ag_2 B rfl) (Yl rfl (yfa rfl fo_114_0) (Ef rfl (est rfl D cn_2 rfl rfl) ?_))));rintro _ Y ⟨F,M⟩;obtain ⟨S,j⟩:=Eu R F (by omega);have B:=B.upd F (by omega);have C:=C.upd F (by omega);have D:Box Y H [.int .i64 A.Early,.int .i64 0] 114:=M;refine Ro 4 (Yl rfl (yfa rfl fo_118_1) (Yl rfl (ylb rfl ag_2 B rfl) (Yl rfl (yfa rfl fo_114_1) (Ef rfl (est rfl D cn_2 rfl rfl) ?_))));rintro _ Z ⟨K,N⟩;obtain ⟨T,k⟩:=Eu S K (by omega);have C:=C.upd K (by omega);have D:Box Z H [.int .i64 A.Early,.int .i64 A.Late] 114:=N;refine Ro 4 (Yl rfl (ynb rfl ag_114 D cn_114) (Ef rfl (est rfl C cn_114 rfl rfl) ?_));rintro _ a ⟨X,O⟩;obtain ⟨U,l⟩:=Eu T X (by omega);have C:Box a I [.int .i64 A.Early,.int .i64 A.Late] 114:=O;refine Ro 3 ?_;obtain rfl:=szs hF;exact NX.end (rs:=[.cell 2 114]) (vs:=[.agg #[.int .i64 A.Early,.int .i64 A.Late]]) rfl ⟨⟨I,rfl,box_load ag_114 cn_114 C⟩,trivial⟩ ⟨_,rfl,rfl,U⟩
def F_laws_toSpanS_L1 (n:Nat) (a0:List S_Span) (k0:Int→(List S_Span)→Option (List S_Span)):Nat→Int→(List S_Span)→Option (List S_Span)
  | 0, _, _=>none
  | m + 1, i19, l20=>(bif decide (i19 < (a0.length:Int)) then (Option.bind (getI a0 i19) fun x22=>(Option.bind (F_laws_toSpan n x22) fun r30=>(Option.bind (getI l20 i19) fun x36=>(F_laws_toSpanS_L1 n a0 k0 m (IntKind.wrap .i64 (i19 + 1)) ((l20.set (i19).toNat r30)))))) else (k0 i19 l20))
def F_laws_toSpanS (n:Nat) (a0:List S_Span):Option (List S_Span):=(Option.bind (mkN ((a0.length:Int)) 16) fun n3=>(F_laws_toSpanS_L1 n a0 (fun i19 l20=>(some l20)) n 0 (List.replicate n3 ((S_Span.mk 0 0)))))
theorem W_laws_toSpanS {n:Nat} {G:List S_Span} {r:List S_Span} {w:World} {J:Value} {H:Nat} (hF:F_laws_toSpanS n G = some r) (hH:H ≤ w.heap.size) (I:slRep C_Span w (Iv 0 H) G J) :
    Calls Tryz.prog 76 [J].toArray w (Ret fun u S => ∃ Q,u = Q∧ownR C_Span S w.heap.size (Iv 0 0) 114 r Q∧Ext w S):=by
  refine calls_ofD Tryz.func76 rfl Tryz.ntmps76 ?_;have K:Ext w w:=Ext.refl w;unfold F_laws_toSpanS at hF;refine Rc 8 (Yl rfl (yle rfl Tryz.underlying54 (I.oh hH K)) ?_);obtain ⟨p,d,hF⟩:=bsome hF;refine Ef rfl (eff_make (c:=C_Span) (z:=(S_Span.mk 0 0)) rfl Tryz.underlying59 in_114 rfl rfl rfl d rfl rfl (fun _ => C_Span_mk)) ?_;rintro R q ⟨U,N,v,y,m,i⟩;obtain ⟨Y,A0⟩:=Et K m;have V:=bd_of N;clear N;refine Ro 10 ?_;refine WC.loopD (fun D a wl => ∃ (A:Int) (B:List S_Span),Kn 23 [(0,J),(3,R),(4,.int .i64 A)] a∧Ext w wl∧q.heap.size ≤ wl.heap.size∧ownR C_Span wl (U) (Iv 0 0) 114 B R∧F_laws_toSpanS_L1 n G (fun A B => (some B)) D A B = some r) n ?_ ?_
  · intro a hK;exact ⟨0,(List.replicate p ((S_Span.mk 0 0))),hK.sub rfl,Y,Nat.le_refl _,i,hF⟩
  · rintro D a H0 ⟨A,B,hK,E,B0,C,hF⟩;revert a;change WC _ _ _ _ _ _
    cases D with
    | zero => exact nos hF
    | succ D =>
      rw [F_laws_toSpanS_L1.eq_2] at hF;refine Rc 5 (Yl rfl (yle rfl Tryz.underlying54 (I.oh hH E)) (Ro 3 (Wc rfl hF ?_ ?_)))
      · intro hF;refine Rc 9 ?_;obtain ⟨T,o,hF⟩:=bsome hF;refine Ye rfl (yix rfl Tryz.underlying54 cn_118 (I.oh hH E) o) ?_;rintro _ ⟨s,E0,F0,rfl,x,e,W⟩;obtain rfl:=C_Span_open e;refine Yl rfl (yln (us:=[.int .i64 T.Early,.int .i64 T.Late]) rfl ag_118 W cn_118) ?_;obtain ⟨F,f,hF⟩:=bsome hF;refine Ef rfl (eca rfl gf_132 (W_laws_toSpan f :)) ?_;rintro _ I0 ⟨rfl,O⟩;obtain ⟨Z,C0⟩:=Et E O;have C:=C.ext O;obtain ⟨K0,P,hF⟩:=bsome hF;refine Ye rfl (yio rfl Tryz.underlying59 cn_114 C P) ?_;rintro _ ⟨t,G0,rfl,L,M,X⟩;have g:=M;obtain rfl:=C_Span_open M;refine Ef rfl (eff_store_own (c:=C_Span) (us':=[.int .i64 F.Early,.int .i64 F.Late]) (y':=F) 0 _ rfl rfl rfl C L P rfl cn_114 rfl g X rfl rfl C_Span_mk (fun k h => absurd h.2 (Nat.not_lt_zero k))) ?_;rintro _ J0 ⟨l,j⟩;obtain ⟨b,D0⟩:=Eu Z l (by have:=V _ L;omega);refine Ro 9 ?_;intro a hK;exact ⟨D,Nat.le.refl,(IntKind.wrap .i64 (A + 1)),((B.set (A).toNat F)),hK.sub rfl,b,(by omega),j,hF⟩
      · intro hF;refine Rc 12 ?_;obtain rfl:=szs hF;exact Ne rfl rfl ⟨_,rfl,_,rfl,ownR.base C (by omega),E⟩
def F_laws_toNeeds (n:Nat) (a0:S_Needs):Option S_Needs:=(Option.bind (F_laws_toBoolS n a0.Bound) fun r26=>(Option.bind (F_laws_toSpanS n a0.Required) fun r41=>(some ((S_Needs.mk r26 r41)))))
theorem W_laws_toNeeds {n:Nat} {M:S_Needs} {r:S_Needs} {w:World} {S:Value} {T:Value} {H:Nat} (hF:F_laws_toNeeds n M = some r) (hH:H ≤ w.heap.size) (c:slRep cBool w (Iv 0 H) M.Bound S) (d:slRep C_Span w (Iv 0 H) M.Required T) :
    Calls Tryz.prog 24 [.agg #[S,T]].toArray w (Ret fun u V => ∃ Q R,u = .agg #[Q,R]∧ownR cBool V w.heap.size (Iv 0 0) 4 r.Bound Q∧ownR C_Span V w.heap.size (Iv 0 0) 114 r.Required R∧(∀ g q,R.ownBlock = some g → Q.ownBlock = some q → g ≠ q)∧Ext w V):=by
  refine calls_ofD Tryz.func24 rfl Tryz.ntmps24 ?_;have i:Ext w w:=Ext.refl w;unfold F_laws_toNeeds at hF;refine Rc 2 (Ef rfl (eff_box rfl rfl) ?_);rintro _ A0 ⟨b,rfl,F0,G0,s,C⟩;have C:Box A0 b [S,T] 56:=C;obtain ⟨j,H0⟩:=Et i s;refine Ef rfl (eff_alloc rfl zn_61) ?_;rintro _ R0 ⟨W,rfl,B0,C0,a,A⟩;obtain ⟨k,I0⟩:=Et j a;have C:=C.ext a;refine Ro 4 (Ef rfl (eff_alloc rfl zn_61) ?_);rintro _ S0 ⟨X,rfl,D0,E0,O,D⟩;obtain ⟨Y,J0⟩:=Et k O;have C:=C.ext O;have A:=A.ext O;refine Ro 4 (Yl rfl (yfa rfl fo_56_0) (Yl rfl (ylb rfl ag_53 C rfl) ?_));obtain ⟨P0,t,hF⟩:=bsome hF;refine Ef rfl (eca rfl gf_75 (W_laws_toBoolS t (by omega) (c.oh hH Y) :)) ?_;rintro L T0 ⟨_,rfl,B,J⟩;obtain ⟨l,K0⟩:=Et Y J;have C:=C.ext J;have A:=A.ext J;have D:=D.ext J;have F:=ownR.blk B;refine Yl rfl (yfa rfl fo_61_0) (Ef rfl (eff_store1 rfl rfl rfl D cn_53 (slRep.cells (ownR.slf B (Nat.le_refl _) (Nat.le_refl _))) (slRep.one (ownR.slf B (Nat.le_refl _) (Nat.le_refl _))) rfl) ?_);rintro _ x ⟨G,e⟩;obtain ⟨Z,L0⟩:=Eu l G (by omega);have C:=C.upd G (by omega);have A:=A.upd G (by omega);have B:=B.upd G (Nb.of F (by omega));have D:Box x X [L,.slice none 0 0] 61:=e;refine Ro 4 (Yl rfl (yfa rfl fo_56_1) (Yl rfl (ylb rfl ag_54 C rfl) ?_));obtain ⟨Q0,v,hF⟩:=bsome hF;refine Ef rfl (eca rfl gf_76 (W_laws_toSpanS v (by omega) (d.oh hH Z) :)) ?_;rintro U U0 ⟨_,rfl,E,K⟩;obtain ⟨m,M0⟩:=Et Z K;have A:=A.ext K;have D:=D.ext K;have B:=B.ext K;have N:=ownR.blk E;refine Yl rfl (yfa rfl fo_61_1) (Ef rfl (eff_store1 rfl rfl rfl D cn_59 (slRep.cells (ownR.slf E (Nat.le_refl _) (Nat.le_refl _))) (slRep.one (ownR.slf E (Nat.le_refl _) (Nat.le_refl _))) rfl) ?_);rintro _ y ⟨I,f⟩;obtain ⟨o,N0⟩:=Eu m I (by omega);have A:=A.upd I (by omega);have B:=B.upd I (Nb.of F (by omega));have E:=E.upd I (Nb.of N (by omega));have D:Box y X [L,U] 61:=f;refine Ro 4 (Yl rfl (ynb rfl ag_61 D cn_61) (Ef rfl (est rfl A cn_61 (allc_cons (slRep.one (ownR.slf B (Nat.le_refl _) (Nat.le_refl _))) (allc_cons (slRep.one (ownR.slf E (Nat.le_refl _) (Nat.le_refl _))) allc_nil)) rfl) ?_));rintro _ z ⟨P,h⟩;obtain ⟨p,O0⟩:=Eu o P (by omega);have B:=B.upd P (Nb.of F (by omega));have E:=E.upd P (Nb.of N (by omega));have A:Box z W [L,U] 61:=h;refine Ro 3 ?_;obtain rfl:=szs hF;exact NX.end (rs:=[.cell 2 61]) (vs:=[.agg #[L,U]]) rfl ⟨⟨W,rfl,box_load ag_61 cn_61 A⟩,trivial⟩ ⟨_,rfl,_,_,rfl,ownR.base B (by omega),ownR.base E (by omega),(No.of N F (by omega)),p⟩
def F_laws_eqBoolS_L1 (a0:List Bool) (a1:List Bool) (k0:Int→Option Bool):Nat→Int→Option Bool
  | 0, _=>none
  | m + 1, i7=>(bif decide (i7 < (a0.length:Int)) then (Option.bind (getI a0 i7) fun x8=>(Option.bind (getI a1 i7) fun x16=>(bif (x8 != x16) then (some false) else (F_laws_eqBoolS_L1 a0 a1 k0 m (IntKind.wrap .i64 (i7 + 1)))))) else (k0 i7))
def F_laws_eqBoolS (n:Nat) (a0:List Bool) (a1:List Bool):Option Bool:=(bif (((a0.length:Int)) != ((a1.length:Int))) then (some false) else (F_laws_eqBoolS_L1 a0 a1 (fun i7=>(some true)) n 0))
theorem W_laws_eqBoolS {n:Nat} {E:List Bool} {F:List Bool} {r:Bool} {w:World} {I:Value} {J:Value} {H:Nat} (hF:F_laws_eqBoolS n E F = some r) (hH:H ≤ w.heap.size) (G:slRep cBool w (Iv 0 H) E I) (K:slRep cBool w (Iv 0 H) F J) :
    Calls Tryz.prog 78 [I,J].toArray w (Ret fun u R => u = .bool r∧Ext w R):=by
  refine calls_ofD Tryz.func78 rfl Tryz.ntmps78 ?_;have D:Ext w w:=Ext.refl w;unfold F_laws_eqBoolS at hF;refine Rc 9 (Yl rfl (yle rfl Tryz.underlying53 (G.oh hH D)) (Ro 1 (Yl rfl (yle rfl Tryz.underlying53 (K.oh hH D)) (Ro 3 (Wc rfl hF ?_ ?_)))))
  · intro hF;refine Rc 7 ?_;obtain rfl:=szs hF;exact Ne rfl rfl ⟨_,rfl,rfl,D⟩
  · intro hF;refine Rc 9 ?_;refine WC.loopD (fun C a wl => ∃ (B:Int),Kn 26 [(0,I),(1,J),(5,.int .i64 B)] a∧Ext w wl∧w.heap.size ≤ wl.heap.size∧F_laws_eqBoolS_L1 E F (fun B => (some true)) C B = some r) n ?_ ?_
    · intro a hK;exact ⟨0,hK.sub rfl,D,Nat.le_refl _,hF⟩
    · rintro C a c ⟨B,hK,A,X,hF⟩;revert a;change WC _ _ _ _ _ _
      cases C with
      | zero => exact nos hF
      | succ C =>
        rw [F_laws_eqBoolS_L1.eq_2] at hF;refine Rc 5 (Yl rfl (yle rfl Tryz.underlying53 (G.oh hH A)) (Ro 3 (Wc rfl hF ?_ ?_)))
        · intro hF;refine Rc 5 (WC.quiet Tryz.hm (by kernel_rfl) (Qr 2 ?_));obtain ⟨d,P,hF⟩:=bsome hF;refine Qe rfl (yix rfl Tryz.underlying53 cn_4 (G.oh hH A) P) ?_;rintro _ ⟨S,Y,_,rfl,U,rfl,M⟩;refine Qy rfl (ylc 0 rfl ag_4 M rfl rfl) (Qr 2 ?_);obtain ⟨e,Q,hF⟩:=bsome hF;refine Qe rfl (yix rfl Tryz.underlying53 cn_4 (K.oh hH A) Q) ?_;rintro _ ⟨T,Z,_,rfl,V,rfl,N⟩;refine Qy rfl (ylc 0 rfl ag_4 N rfl rfl) (Qy rfl (yld_neb rfl Tryz.underlying4 rfl rfl) ?_);refine QL.done fun b O => ?_;obtain ⟨L,W⟩:=Et A O;refine Re 1 (Wc rfl hF ?_ ?_)
          · intro hF;refine Rc 11 ?_;obtain rfl:=szs hF;exact Ne rfl rfl ⟨_,rfl,rfl,L⟩
          · intro hF;refine Rc 9 ?_;intro a hK;exact ⟨C,Nat.le.refl,(IntKind.wrap .i64 (B + 1)),hK.sub rfl,L,(by omega),hF⟩
        · intro hF;refine Rc 11 ?_;obtain rfl:=szs hF;exact Ne rfl rfl ⟨_,rfl,rfl,A⟩
def F_laws_eqSpan (n:Nat) (a0:S_Span) (a1:S_Span):Option Bool:=(bif (a0.Early != a1.Early) then (some false) else (bif (a0.Late != a1.Late) then (some false) else (some true)))
theorem W_laws_eqSpan {n:Nat} {B:S_Span} {C:S_Span} {r:Bool} {w:World} (hF:F_laws_eqSpan n B C = some r) :
    Calls Tryz.prog 146 [.agg #[.int .i64 B.Early,.int .i64 B.Late],.agg #[.int .i64 C.Early,.int .i64 C.Late]].toArray w (Ret fun u F => u = .bool r∧Ext w F):=by
  refine calls_ofD Tryz.func146 rfl Tryz.ntmps146 ?_;have J:Ext w w:=Ext.refl w;unfold F_laws_eqSpan at hF;refine Rc 2 (Ef rfl (eff_box rfl rfl) ?_);rintro _ F ⟨H,rfl,P,Q,L,A⟩;have A:Box F H [.int .i64 B.Early,.int .i64 B.Late] 114:=A;obtain ⟨K,S⟩:=Et J L;refine Ef rfl (eff_box rfl rfl) ?_;rintro _ M ⟨I,rfl,N,O,G,D⟩;have D:Box M I [.int .i64 C.Early,.int .i64 C.Late] 114:=D;obtain ⟨E,R⟩:=Et K G;have A:=A.ext G;refine Ro 6 (Yl rfl (yfa rfl fo_114_0) (Yl rfl (ylb rfl ag_2 A rfl) (Yl rfl (yfa rfl fo_114_0) (Yl rfl (ylb rfl ag_2 D rfl) (Ro 3 (Wc rfl hF ?_ ?_))))))
  · intro hF;refine Rc 7 ?_;obtain rfl:=szs hF;exact Ne rfl rfl ⟨_,rfl,rfl,E⟩
  · intro hF;refine Rc 5 (Yl rfl (yfa rfl fo_114_1) (Yl rfl (ylb rfl ag_2 A rfl) (Yl rfl (yfa rfl fo_114_1) (Yl rfl (ylb rfl ag_2 D rfl) (Ro 3 (Wc rfl hF ?_ ?_))))))
    · intro hF;refine Rc 7 ?_;obtain rfl:=szs hF;exact Ne rfl rfl ⟨_,rfl,rfl,E⟩
    · intro hF;refine Rc 8 ?_;obtain rfl:=szs hF;exact Ne rfl rfl ⟨_,rfl,rfl,E⟩
def F_laws_eqSpanS_L1 (n:Nat) (a0:List S_Span) (a1:List S_Span) (k0:Int→Option Bool):Nat→Int→Option Bool
  | 0, _=>none
  | m + 1, i7=>(bif decide (i7 < (a0.length:Int)) then (Option.bind (getI a0 i7) fun x8=>(Option.bind (getI a1 i7) fun x16=>(Option.bind (F_laws_eqSpan n x8 x16) fun r24=>(bif (!r24) then (some false) else (F_laws_eqSpanS_L1 n a0 a1 k0 m (IntKind.wrap .i64 (i7 + 1))))))) else (k0 i7))
def F_laws_eqSpanS (n:Nat) (a0:List S_Span) (a1:List S_Span):Option Bool:=(bif (((a0.length:Int)) != ((a1.length:Int))) then (some false) else (F_laws_eqSpanS_L1 n a0 a1 (fun i7=>(some true)) n 0))
theorem W_laws_eqSpanS {n:Nat} {E:List S_Span} {F:List S_Span} {r:Bool} {w:World} {I:Value} {J:Value} {H:Nat} (hF:F_laws_eqSpanS n E F = some r) (hH:H ≤ w.heap.size) (G:slRep C_Span w (Iv 0 H) E I) (K:slRep C_Span w (Iv 0 H) F J) :
    Calls Tryz.prog 79 [I,J].toArray w (Ret fun u W => u = .bool r∧Ext w W):=by
  refine calls_ofD Tryz.func79 rfl Tryz.ntmps79 ?_;have D:Ext w w:=Ext.refl w;unfold F_laws_eqSpanS at hF;refine Rc 9 (Yl rfl (yle rfl Tryz.underlying59 (G.oh hH D)) (Ro 1 (Yl rfl (yle rfl Tryz.underlying59 (K.oh hH D)) (Ro 3 (Wc rfl hF ?_ ?_)))))
  · intro hF;refine Rc 7 ?_;obtain rfl:=szs hF;exact Ne rfl rfl ⟨_,rfl,rfl,D⟩
  · intro hF;refine Rc 9 ?_;refine WC.loopD (fun C a wl => ∃ (B:Int),Kn 27 [(0,I),(1,J),(5,.int .i64 B)] a∧Ext w wl∧w.heap.size ≤ wl.heap.size∧F_laws_eqSpanS_L1 n E F (fun B => (some true)) C B = some r) n ?_ ?_
    · intro a hK;exact ⟨0,hK.sub rfl,D,Nat.le_refl _,hF⟩
    · rintro C a k ⟨B,hK,A,d,hF⟩;revert a;change WC _ _ _ _ _ _
      cases C with
      | zero => exact nos hF
      | succ C =>
        rw [F_laws_eqSpanS_L1.eq_2] at hF;refine Rc 5 (Yl rfl (yle rfl Tryz.underlying59 (G.oh hH A)) (Ro 3 (Wc rfl hF ?_ ?_)))
        · intro hF;refine Rc 5 (WC.quiet Tryz.hm (by kernel_rfl) (Qr 2 ?_));obtain ⟨M,U,hF⟩:=bsome hF;refine Qe rfl (yix rfl Tryz.underlying59 cn_114 (G.oh hH A) U) ?_;rintro _ ⟨X,e,h,rfl,Z,Q,O⟩;obtain rfl:=C_Span_open Q;refine Qy rfl (yln (us:=[.int .i64 M.Early,.int .i64 M.Late]) rfl ag_114 O cn_114) (Qr 2 ?_);obtain ⟨N,V,hF⟩:=bsome hF;refine Qe rfl (yix rfl Tryz.underlying59 cn_114 (K.oh hH A) V) ?_;rintro _ ⟨Y,f,i,rfl,b,R,P⟩;obtain rfl:=C_Span_open R;refine Qy rfl (yln (us:=[.int .i64 N.Early,.int .i64 N.Late]) rfl ag_114 P cn_114) ?_;obtain ⟨g,S,hF⟩:=bsome hF;refine Ql rfl (qca rfl gf_146 fun w' hw' => (W_laws_eqSpan S :)) ?_;refine Qr 1 ?_;refine QL.done fun j T => ?_;obtain ⟨L,c⟩:=Et A T;refine Re 1 (Wc rfl hF ?_ ?_)
          · intro hF;refine Rc 11 ?_;obtain rfl:=szs hF;exact Ne rfl rfl ⟨_,rfl,rfl,L⟩
          · intro hF;refine Rc 9 ?_;intro a hK;exact ⟨C,Nat.le.refl,(IntKind.wrap .i64 (B + 1)),hK.sub rfl,L,(by omega),hF⟩
        · intro hF;refine Rc 11 ?_;obtain rfl:=szs hF;exact Ne rfl rfl ⟨_,rfl,rfl,A⟩
def F_laws_eqNeeds (n:Nat) (a0:S_Needs) (a1:S_Needs):Option Bool:=(Option.bind (F_laws_eqBoolS n a0.Bound a1.Bound) fun r23=>(bif (!r23) then (some false) else (Option.bind (F_laws_eqSpanS n a0.Required a1.Required) fun r29=>(bif (!r29) then (some false) else (some true)))))
theorem W_laws_eqNeeds {n:Nat} {D:S_Needs} {E:S_Needs} {r:Bool} {w:World} {I:Value} {J:Value} {K:Value} {L:Value} {H:Nat} (hF:F_laws_eqNeeds n D E = some r) (hH:H ≤ w.heap.size) (Q:slRep cBool w (Iv 0 H) D.Bound I) (R:slRep C_Span w (Iv 0 H) D.Required J) (S:slRep cBool w (Iv 0 H) E.Bound K) (T:slRep C_Span w (Iv 0 H) E.Required L) :
    Calls Tryz.prog 26 [.agg #[I,J],.agg #[K,L]].toArray w (Ret fun u c => u = .bool r∧Ext w c):=by
  refine calls_ofD Tryz.func26 rfl Tryz.ntmps26 ?_;have U:Ext w w:=Ext.refl w;unfold F_laws_eqNeeds at hF;refine Rc 2 (Ef rfl (eff_box rfl rfl) ?_);rintro _ a ⟨P,rfl,d,e,W,A⟩;have A:Box a P [I,J] 61:=A;obtain ⟨V,h⟩:=Et U W;refine Ef rfl (eff_box rfl rfl) ?_;rintro _ b ⟨O,rfl,f,g,N,B⟩;have B:Box b O [K,L] 61:=B;obtain ⟨F,i⟩:=Et V N;have A:=A.ext N;refine Ro 6 (Yl rfl (yfa rfl fo_61_0) (Yl rfl (ylb rfl ag_53 A rfl) (Yl rfl (yfa rfl fo_61_0) (Yl rfl (ylb rfl ag_53 B rfl) ?_))));obtain ⟨l,X,hF⟩:=bsome hF;refine Ef rfl (eca rfl gf_78 (W_laws_eqBoolS X (by omega) (Q.oh hH F) (S.oh hH F) :)) ?_;rintro _ o ⟨rfl,G⟩;obtain ⟨C,j⟩:=Et F G;have A:=A.ext G;have B:=B.ext G;refine Ro 3 (Wc rfl hF ?_ ?_)
  · intro hF;refine Rc 7 ?_;obtain rfl:=szs hF;exact Ne rfl rfl ⟨_,rfl,rfl,C⟩
  · intro hF;refine Rc 5 (Yl rfl (yfa rfl fo_61_1) (Yl rfl (ylb rfl ag_59 A rfl) (Yl rfl (yfa rfl fo_61_1) (Yl rfl (ylb rfl ag_59 B rfl) ?_))));obtain ⟨m,Y,hF⟩:=bsome hF;refine Ef rfl (eca rfl gf_79 (W_laws_eqSpanS Y (by omega) (R.oh hH C) (T.oh hH C) :)) ?_;rintro _ p ⟨rfl,Z⟩;obtain ⟨M,k⟩:=Et C Z;refine Ro 3 (Wc rfl hF ?_ ?_)
    · intro hF;refine Rc 7 ?_;obtain rfl:=szs hF;exact Ne rfl rfl ⟨_,rfl,rfl,M⟩
    · intro hF;refine Rc 8 ?_;obtain rfl:=szs hF;exact Ne rfl rfl ⟨_,rfl,rfl,M⟩
def F_laws_szTiming (n:Nat) (a0:S_Timing) (a1:Int):Option Int:=(Option.bind (F_laws_szBoolS n a0.Reached a1) fun r14=>(bif decide (r14 < 0) then (some (-1)) else (Option.bind (F_laws_szSpanS n a0.Arrival r14) fun r20=>(bif decide (r20 < 0) then (some (-1)) else (Option.bind (F_laws_szSpanS n a0.Slew r20) fun r26=>(bif decide (r26 < 0) then (some (-1)) else (some r26)))))))
theorem W_laws_szTiming {n:Nat} {B:S_Timing} {I:Int} {r:Int} {w:World} {E:Value} {F:Value} {G:Value} {H:Nat} (hF:F_laws_szTiming n B I = some r) (hH:H ≤ w.heap.size) (O:slRep cBool w (Iv 0 H) B.Reached E) (P:slRep C_Span w (Iv 0 H) B.Arrival F) (Q:slRep C_Span w (Iv 0 H) B.Slew G) :
    Calls Tryz.prog 27 [.agg #[E,F,G],.int .i64 I].toArray w (Ret fun u X => u = .int .i64 r∧Ext w X):=by
  refine calls_ofD Tryz.func27 rfl Tryz.ntmps27 ?_;have R:Ext w w:=Ext.refl w;unfold F_laws_szTiming at hF;refine Rc 2 (Ef rfl (eff_box rfl rfl) ?_);rintro _ Y ⟨N,rfl,Z,a,S,A⟩;have A:Box Y N [E,F,G] 66:=A;obtain ⟨J,b⟩:=Et R S;refine Ro 5 (Yl rfl (yfa rfl fo_66_0) (Yl rfl (ylb rfl ag_53 A rfl) (Ro 1 ?_)));obtain ⟨f,T,hF⟩:=bsome hF;refine Ef rfl (eca rfl gf_71 (W_laws_szBoolS T (by omega) (O.oh hH J) :)) ?_;rintro _ i ⟨rfl,L⟩;obtain ⟨C,c⟩:=Et J L;have A:=A.ext L;refine Ro 10 (Wc rfl hF ?_ ?_)
  · intro hF;refine Rc 7 ?_;obtain rfl:=szs hF;exact Ne rfl rfl ⟨_,rfl,rfl,C⟩
  · intro hF;refine Rc 4 (Yl rfl (yfa rfl fo_66_1) (Yl rfl (ylb rfl ag_54 A rfl) (Ro 1 ?_)));obtain ⟨g,U,hF⟩:=bsome hF;refine Ef rfl (eca rfl gf_72 (W_laws_szSpanS U (by omega) (P.oh hH C) :)) ?_;rintro _ j ⟨rfl,M⟩;obtain ⟨D,d⟩:=Et C M;have A:=A.ext M;refine Ro 10 (Wc rfl hF ?_ ?_)
    · intro hF;refine Rc 7 ?_;obtain rfl:=szs hF;exact Ne rfl rfl ⟨_,rfl,rfl,D⟩
    · intro hF;refine Rc 4 (Yl rfl (yfa rfl fo_66_2) (Yl rfl (ylb rfl ag_54 A rfl) (Ro 1 ?_)));obtain ⟨h,V,hF⟩:=bsome hF;refine Ef rfl (eca rfl gf_72 (W_laws_szSpanS V (by omega) (Q.oh hH D) :)) ?_;rintro _ k ⟨rfl,W⟩;obtain ⟨K,e⟩:=Et D W;refine Ro 10 (Wc rfl hF ?_ ?_)
      · intro hF;refine Rc 7 ?_;obtain rfl:=szs hF;exact Ne rfl rfl ⟨_,rfl,rfl,K⟩
      · intro hF;refine Rc 9 ?_;obtain rfl:=szs hF;exact Ne rfl rfl ⟨_,rfl,rfl,K⟩
def F_laws_toTiming (n:Nat) (a0:S_Timing):Option S_Timing:=(Option.bind (F_laws_toBoolS n a0.Reached) fun r28=>(Option.bind (F_laws_toSpanS n a0.Arrival) fun r43=>(Option.bind (F_laws_toSpanS n a0.Slew) fun r58=>(some ((S_Timing.mk r28 r43 r58))))))
theorem W_laws_toTiming {n:Nat} {O:S_Timing} {r:S_Timing} {w:World} {a:Value} {b:Value} {c:Value} {H:Nat} (hF:F_laws_toTiming n O = some r) (hH:H ≤ w.heap.size) (l:slRep cBool w (Iv 0 H) O.Reached a) (m:slRep C_Span w (Iv 0 H) O.Arrival b) (o:slRep C_Span w (Iv 0 H) O.Slew c) :
    Calls Tryz.prog 29 [.agg #[a,b,c]].toArray w (Ret fun u X => ∃ T U V,u = .agg #[T,U,V]∧ownR cBool X w.heap.size (Iv 0 0) 4 r.Reached T∧ownR C_Span X w.heap.size (Iv 0 0) 114 r.Arrival U∧ownR C_Span X w.heap.size (Iv 0 0) 114 r.Slew V∧(∀ g q,U.ownBlock = some g → T.ownBlock = some q → g ≠ q)∧(∀ g q,V.ownBlock = some g → T.ownBlock = some q → g ≠ q)∧(∀ g q,V.ownBlock = some g → U.ownBlock = some q → g ≠ q)∧Ext w X):=by
  refine calls_ofD Tryz.func29 rfl Tryz.ntmps29 ?_;have x:Ext w w:=Ext.refl w;unfold F_laws_toTiming at hF;refine Rc 2 (Ef rfl (eff_box rfl rfl) ?_);rintro _ N0 ⟨k,rfl,S0,T0,F0,A⟩;have A:Box N0 k [a,b,c] 66:=A;obtain ⟨y,U0⟩:=Et x F0;refine Ef rfl (eff_alloc rfl zn_71) ?_;rintro _ h0 ⟨e,rfl,O0,P0,j,B⟩;obtain ⟨z,V0⟩:=Et y j;have A:=A.ext j;refine Ro 4 (Ef rfl (eff_alloc rfl zn_71) ?_);rintro _ i0 ⟨Y,rfl,Q0,R0,Z,D⟩;obtain ⟨f,W0⟩:=Et z Z;have A:=A.ext Z;have B:=B.ext Z;refine Ro 4 (Yl rfl (yfa rfl fo_66_0) (Yl rfl (ylb rfl ag_53 A rfl) ?_));obtain ⟨e0,G0,hF⟩:=bsome hF;refine Ef rfl (eca rfl gf_75 (W_laws_toBoolS G0 (by omega) (l.oh hH f) :)) ?_;rintro N j0 ⟨_,rfl,C,S⟩;obtain ⟨A0,X0⟩:=Et f S;have A:=A.ext S;have B:=B.ext S;have D:=D.ext S;have G:=ownR.blk C;refine Yl rfl (yfa rfl fo_71_0) (Ef rfl (eff_store1 rfl rfl rfl D cn_53 (slRep.cells (ownR.slf C (Nat.le_refl _) (Nat.le_refl _))) (slRep.one (ownR.slf C (Nat.le_refl _) (Nat.le_refl _))) rfl) ?_);rintro _ J0 ⟨Q,p⟩;obtain ⟨h,Y0⟩:=Eu A0 Q (by omega);have A:=A.upd Q (by omega);have B:=B.upd Q (by omega);have C:=C.upd Q (Nb.of G (by omega));have D:Box J0 Y [N,.slice none 0 0,.slice none 0 0] 71:=p;refine Ro 4 (Yl rfl (yfa rfl fo_66_1) (Yl rfl (ylb rfl ag_54 A rfl) ?_));obtain ⟨f0,H0,hF⟩:=bsome hF;refine Ef rfl (eca rfl gf_76 (W_laws_toSpanS H0 (by omega) (m.oh hH h) :)) ?_;rintro W k0 ⟨_,rfl,E,L⟩;obtain ⟨B0,Z0⟩:=Et h L;have A:=A.ext L;have B:=B.ext L;have D:=D.ext L;have C:=C.ext L;have I:=ownR.blk E;refine Yl rfl (yfa rfl fo_71_1) (Ef rfl (eff_store1 rfl rfl rfl D cn_59 (slRep.cells (ownR.slf E (Nat.le_refl _) (Nat.le_refl _))) (slRep.one (ownR.slf E (Nat.le_refl _) (Nat.le_refl _))) rfl) ?_);rintro _ K0 ⟨J,s⟩;obtain ⟨i,a0⟩:=Eu B0 J (by omega);have A:=A.upd J (by omega);have B:=B.upd J (by omega);have C:=C.upd J (Nb.of G (by omega));have E:=E.upd J (Nb.of I (by omega));have D:Box K0 Y [N,W,.slice none 0 0] 71:=s;refine Ro 4 (Yl rfl (yfa rfl fo_66_2) (Yl rfl (ylb rfl ag_54 A rfl) ?_));obtain ⟨g0,I0,hF⟩:=bsome hF;refine Ef rfl (eca rfl gf_76 (W_laws_toSpanS I0 (by omega) (o.oh hH i) :)) ?_;rintro d l0 ⟨_,rfl,F,M⟩;obtain ⟨C0,b0⟩:=Et i M;have B:=B.ext M;have D:=D.ext M;have C:=C.ext M;have E:=E.ext M;have P:=ownR.blk F;refine Yl rfl (yfa rfl fo_71_2) (Ef rfl (eff_store1 rfl rfl rfl D cn_59 (slRep.cells (ownR.slf F (Nat.le_refl _) (Nat.le_refl _))) (slRep.one (ownR.slf F (Nat.le_refl _) (Nat.le_refl _))) rfl) ?_);rintro _ L0 ⟨K,t⟩;obtain ⟨D0,c0⟩:=Eu C0 K (by omega);have B:=B.upd K (by omega);have C:=C.upd K (Nb.of G (by omega));have E:=E.upd K (Nb.of I (by omega));have F:=F.upd K (Nb.of P (by omega));have D:Box L0 Y [N,W,d] 71:=t;refine Ro 4 (Yl rfl (ynb rfl ag_71 D cn_71) (Ef rfl (est rfl B cn_71 (allc_cons (slRep.one (ownR.slf C (Nat.le_refl _) (Nat.le_refl _))) (allc_cons (slRep.one (ownR.slf E (Nat.le_refl _) (Nat.le_refl _))) (allc_cons (slRep.one (ownR.slf F (Nat.le_refl _) (Nat.le_refl _))) allc_nil))) rfl) ?_));rintro _ M0 ⟨R,v⟩;obtain ⟨E0,d0⟩:=Eu D0 R (by omega);have C:=C.upd R (Nb.of G (by omega));have E:=E.upd R (Nb.of I (by omega));have F:=F.upd R (Nb.of P (by omega));have B:Box M0 e [N,W,d] 71:=v;refine Ro 3 ?_;obtain rfl:=szs hF;exact NX.end (rs:=[.cell 2 71]) (vs:=[.agg #[N,W,d]]) rfl ⟨⟨e,rfl,box_load ag_71 cn_71 B⟩,trivial⟩ ⟨_,rfl,_,_,_,rfl,ownR.base C (by omega),ownR.base E (by omega),ownR.base F (by omega),(No.of I G (by omega)),(No.of P G (by omega)),(No.of P I (by omega)),E0⟩
def F_laws_eqTiming (n:Nat) (a0:S_Timing) (a1:S_Timing):Option Bool:=(Option.bind (F_laws_eqBoolS n a0.Reached a1.Reached) fun r27=>(bif (!r27) then (some false) else (Option.bind (F_laws_eqSpanS n a0.Arrival a1.Arrival) fun r33=>(bif (!r33) then (some false) else (Option.bind (F_laws_eqSpanS n a0.Slew a1.Slew) fun r39=>(bif (!r39) then (some false) else (some true)))))))
theorem W_laws_eqTiming {n:Nat} {C:S_Timing} {D:S_Timing} {r:Bool} {w:World} {K:Value} {M:Value} {N:Value} {O:Value} {P:Value} {L:Value} {H:Nat} (hF:F_laws_eqTiming n C D = some r) (hH:H ≤ w.heap.size) (W:slRep cBool w (Iv 0 H) C.Reached K) (X:slRep C_Span w (Iv 0 H) C.Arrival M) (Y:slRep C_Span w (Iv 0 H) C.Slew N) (Z:slRep cBool w (Iv 0 H) D.Reached O) (U:slRep C_Span w (Iv 0 H) D.Arrival P) (V:slRep C_Span w (Iv 0 H) D.Slew L) :
    Calls Tryz.prog 31 [.agg #[K,M,N],.agg #[O,P,L]].toArray w (Ret fun u i => u = .bool r∧Ext w i):=by
  refine calls_ofD Tryz.func31 rfl Tryz.ntmps31 ?_;have a:Ext w w:=Ext.refl w;unfold F_laws_eqTiming at hF;refine Rc 2 (Ef rfl (eff_box rfl rfl) ?_);rintro _ h ⟨S,rfl,k,l,c,A⟩;have A:Box h S [K,M,N] 71:=A;obtain ⟨b,p⟩:=Et a c;refine Ef rfl (eff_box rfl rfl) ?_;rintro _ j ⟨T,rfl,m,o,R,B⟩;have B:Box j T [O,P,L] 71:=B;obtain ⟨G,q⟩:=Et b R;have A:=A.ext R;refine Ro 6 (Yl rfl (yfa rfl fo_71_0) (Yl rfl (ylb rfl ag_53 A rfl) (Yl rfl (yfa rfl fo_71_0) (Yl rfl (ylb rfl ag_53 B rfl) ?_))));obtain ⟨x,d,hF⟩:=bsome hF;refine Ef rfl (eca rfl gf_78 (W_laws_eqBoolS d (by omega) (W.oh hH G) (Z.oh hH G) :)) ?_;rintro _ A0 ⟨rfl,I⟩;obtain ⟨E,s⟩:=Et G I;have A:=A.ext I;have B:=B.ext I;refine Ro 3 (Wc rfl hF ?_ ?_)
  · intro hF;refine Rc 7 ?_;obtain rfl:=szs hF;exact Ne rfl rfl ⟨_,rfl,rfl,E⟩
  · intro hF;refine Rc 5 (Yl rfl (yfa rfl fo_71_1) (Yl rfl (ylb rfl ag_59 A rfl) (Yl rfl (yfa rfl fo_71_1) (Yl rfl (ylb rfl ag_59 B rfl) ?_))));obtain ⟨y,e,hF⟩:=bsome hF;refine Ef rfl (eca rfl gf_79 (W_laws_eqSpanS e (by omega) (X.oh hH E) (U.oh hH E) :)) ?_;rintro _ B0 ⟨rfl,J⟩;obtain ⟨F,t⟩:=Et E J;have A:=A.ext J;have B:=B.ext J;refine Ro 3 (Wc rfl hF ?_ ?_)
    · intro hF;refine Rc 7 ?_;obtain rfl:=szs hF;exact Ne rfl rfl ⟨_,rfl,rfl,F⟩
    · intro hF;refine Rc 5 (Yl rfl (yfa rfl fo_71_2) (Yl rfl (ylb rfl ag_59 A rfl) (Yl rfl (yfa rfl fo_71_2) (Yl rfl (ylb rfl ag_59 B rfl) ?_))));obtain ⟨z,f,hF⟩:=bsome hF;refine Ef rfl (eca rfl gf_79 (W_laws_eqSpanS f (by omega) (Y.oh hH F) (V.oh hH F) :)) ?_;rintro _ C0 ⟨rfl,g⟩;obtain ⟨Q,v⟩:=Et F g;refine Ro 3 (Wc rfl hF ?_ ?_)
      · intro hF;refine Rc 7 ?_;obtain rfl:=szs hF;exact Ne rfl rfl ⟨_,rfl,rfl,Q⟩
      · intro hF;refine Rc 8 ?_;obtain rfl:=szs hF;exact Ne rfl rfl ⟨_,rfl,rfl,Q⟩
theorem Z_Int64S {n : Nat} {a : List Int} {left : Int} (hR : (fun xs => xs.length ≤ 9223372036854775807 ∧ ∀ x ∈ xs, (inK .i64) x) a) (h0 : 0 ≤ left) (h1 : left ≤ 1048576) (hn : 1048577 ≤ n) : ∃ r, F_laws_szInt64S n a left = some r ∧ r ≤ left ∧ (0 ≤ r → (fun xs => xs.length ≤ 1048576 ∧ ∀ x ∈ xs, (fun _ => True) x) a) := by
  have hl := hR.1
  rw [F_laws_szInt64S, wrap64 (by omega) (by omega)]
  by_cases h : left - (a.length : Int) < 0
  · rw [decide_eq_true h]; exact ⟨-1, rfl, by omega, fun h => by omega⟩
  · rw [decide_eq_false h]; exact ⟨_, rfl, by omega, fun _ => ⟨by omega, fun x _ => trivial⟩⟩
theorem Z_Pin {n : Nat} {a : S_Pin} {left : Int} (hR : R_Pin a) (h0 : 0 ≤ left) (h1 : left ≤ 1048576) (hn : 1048577 ≤ n) : ∃ r, F_laws_szPin n a left = some r ∧ r ≤ left ∧ (0 ≤ r → SM_Pin a) := by
  rw [F_laws_szPin]
  have g0 : a.Name.size ≤ 9223372036854775807 := maxLen_is ▸ hR.1
  have w0 : IntKind.wrap .i64 (left - (a.Name.size : Int)) = left - (a.Name.size : Int) := wrap64 (by omega) (by omega)
  rw [w0]
  generalize hq0 : left - (a.Name.size : Int) = r0
  by_cases h_0 : r0 < 0
  · rw [decide_eq_true h_0]; exact ⟨-1, rfl, by omega, fun h => by omega⟩
  rw [decide_eq_false h_0, cond_false]
  exact ⟨_, rfl, by omega, fun _ => ⟨(by omega), trivial, trivial, trivial⟩⟩
theorem Z_PinS {n : Nat} {a : List S_Pin} {left : Int} (hR : (fun xs => xs.length ≤ 9223372036854775807 ∧ ∀ x ∈ xs, R_Pin x) a) (h0 : 0 ≤ left) (h1 : left ≤ 1048576) (hn : 1048577 ≤ n) : ∃ r, F_laws_szPinS n a left = some r ∧ r ≤ left ∧ (0 ≤ r → (fun xs => xs.length ≤ 1048576 ∧ ∀ x ∈ xs, SM_Pin x) a) := by
  have hl := hR.1
  rw [F_laws_szPinS, wrap64 (by omega) (by omega)]
  by_cases h : left - (a.length : Int) < 0
  · rw [decide_eq_true h]; exact ⟨-1, rfl, by omega, fun h => by omega⟩
  · rw [decide_eq_false h, cond_false]
    obtain ⟨r, e, hr, hs⟩ := szL (xs := a) (L := fun m l i => F_laws_szPinS_L1 n a (fun i7 i8 => (some i7)) m l i) (f := F_laws_szPin n) (SM := SM_Pin) (by omega) (fun x hx left g0 g1 => Z_Pin (hR.2 x hx) g0 g1 hn) (fun m i left hi hi2 => by simp only [F_laws_szPinS_L1.eq_2, dltE hi, cond_true, getI_elE hi, Option.bind_some, wSE hi2]) (fun m left => by simp only [F_laws_szPinS_L1.eq_2, dnlE, cond_false]) n 0 (left - (a.length : Int)) (by omega) (by omega) (by omega) (by omega) (fun j _ hj => by omega)
    exact ⟨r, e, by omega, fun h => ⟨by omega, hs h⟩⟩
theorem Z_Table {n : Nat} {a : S_Table} {left : Int} (hR : R_Table a) (h0 : 0 ≤ left) (h1 : left ≤ 1048576) (hn : 1048577 ≤ n) : ∃ r, F_laws_szTable n a left = some r ∧ r ≤ left ∧ (0 ≤ r → SM_Table a) := by
  rw [F_laws_szTable]
  obtain ⟨r0, e0, l0, s0⟩ := Z_Int64S (n := n) (left := left) hR.1 h0 h1 hn
  rw [e0, Option.bind_some]
  by_cases h_0 : r0 < 0
  · rw [decide_eq_true h_0]; exact ⟨-1, rfl, by omega, fun h => by omega⟩
  rw [decide_eq_false h_0, cond_false]
  obtain ⟨r1, e1, l1, s1⟩ := Z_Int64S (n := n) (left := r0) hR.2.1 (show (0 : Int) ≤ r0 by omega) (by omega) hn
  rw [e1, Option.bind_some]
  by_cases h_1 : r1 < 0
  · rw [decide_eq_true h_1]; exact ⟨-1, rfl, by omega, fun h => by omega⟩
  rw [decide_eq_false h_1, cond_false]
  obtain ⟨r2, e2, l2, s2⟩ := Z_Int64S (n := n) (left := r1) hR.2.2 (show (0 : Int) ≤ r1 by omega) (by omega) hn
  rw [e2, Option.bind_some]
  by_cases h_2 : r2 < 0
  · rw [decide_eq_true h_2]; exact ⟨-1, rfl, by omega, fun h => by omega⟩
  rw [decide_eq_false h_2, cond_false]
  exact ⟨_, rfl, by omega, fun _ => ⟨s0 (by omega), s1 (by omega), s2 (by omega)⟩⟩
theorem Z_TableS {n : Nat} {a : List S_Table} {left : Int} (hR : (fun xs => xs.length ≤ 9223372036854775807 ∧ ∀ x ∈ xs, R_Table x) a) (h0 : 0 ≤ left) (h1 : left ≤ 1048576) (hn : 1048577 ≤ n) : ∃ r, F_laws_szTableS n a left = some r ∧ r ≤ left ∧ (0 ≤ r → (fun xs => xs.length ≤ 1048576 ∧ ∀ x ∈ xs, SM_Table x) a) := by
  have hl := hR.1
  rw [F_laws_szTableS, wrap64 (by omega) (by omega)]
  by_cases h : left - (a.length : Int) < 0
  · rw [decide_eq_true h]; exact ⟨-1, rfl, by omega, fun h => by omega⟩
  · rw [decide_eq_false h, cond_false]
    obtain ⟨r, e, hr, hs⟩ := szL (xs := a) (L := fun m l i => F_laws_szTableS_L1 n a (fun i7 i8 => (some i7)) m l i) (f := F_laws_szTable n) (SM := SM_Table) (by omega) (fun x hx left g0 g1 => Z_Table (hR.2 x hx) g0 g1 hn) (fun m i left hi hi2 => by simp only [F_laws_szTableS_L1.eq_2, dltE hi, cond_true, getI_elE hi, Option.bind_some, wSE hi2]) (fun m left => by simp only [F_laws_szTableS_L1.eq_2, dnlE, cond_false]) n 0 (left - (a.length : Int)) (by omega) (by omega) (by omega) (by omega) (fun j _ hj => by omega)
    exact ⟨r, e, by omega, fun h => ⟨by omega, hs h⟩⟩
theorem Z_Arc {n : Nat} {a : S_Arc} {left : Int} (hR : R_Arc a) (h0 : 0 ≤ left) (h1 : left ≤ 1048576) (hn : 1048577 ≤ n) : ∃ r, F_laws_szArc n a left = some r ∧ r ≤ left ∧ (0 ≤ r → SM_Arc a) := by
  rw [F_laws_szArc]
  obtain ⟨r0, e0, l0, s0⟩ := Z_TableS (n := n) (left := left) hR.2.2.2.2.1 h0 h1 hn
  rw [e0, Option.bind_some]
  by_cases h_0 : r0 < 0
  · rw [decide_eq_true h_0]; exact ⟨-1, rfl, by omega, fun h => by omega⟩
  rw [decide_eq_false h_0, cond_false]
  obtain ⟨r1, e1, l1, s1⟩ := Z_TableS (n := n) (left := r0) hR.2.2.2.2.2 (show (0 : Int) ≤ r0 by omega) (by omega) hn
  rw [e1, Option.bind_some]
  by_cases h_1 : r1 < 0
  · rw [decide_eq_true h_1]; exact ⟨-1, rfl, by omega, fun h => by omega⟩
  rw [decide_eq_false h_1, cond_false]
  exact ⟨_, rfl, by omega, fun _ => ⟨trivial, trivial, trivial, trivial, s0 (by omega), s1 (by omega)⟩⟩
theorem Z_ArcS {n : Nat} {a : List S_Arc} {left : Int} (hR : (fun xs => xs.length ≤ 9223372036854775807 ∧ ∀ x ∈ xs, R_Arc x) a) (h0 : 0 ≤ left) (h1 : left ≤ 1048576) (hn : 1048577 ≤ n) : ∃ r, F_laws_szArcS n a left = some r ∧ r ≤ left ∧ (0 ≤ r → (fun xs => xs.length ≤ 1048576 ∧ ∀ x ∈ xs, SM_Arc x) a) := by
  have hl := hR.1
  rw [F_laws_szArcS, wrap64 (by omega) (by omega)]
  by_cases h : left - (a.length : Int) < 0
  · rw [decide_eq_true h]; exact ⟨-1, rfl, by omega, fun h => by omega⟩
  · rw [decide_eq_false h, cond_false]
    obtain ⟨r, e, hr, hs⟩ := szL (xs := a) (L := fun m l i => F_laws_szArcS_L1 n a (fun i7 i8 => (some i7)) m l i) (f := F_laws_szArc n) (SM := SM_Arc) (by omega) (fun x hx left g0 g1 => Z_Arc (hR.2 x hx) g0 g1 hn) (fun m i left hi hi2 => by simp only [F_laws_szArcS_L1.eq_2, dltE hi, cond_true, getI_elE hi, Option.bind_some, wSE hi2]) (fun m left => by simp only [F_laws_szArcS_L1.eq_2, dnlE, cond_false]) n 0 (left - (a.length : Int)) (by omega) (by omega) (by omega) (by omega) (fun j _ hj => by omega)
    exact ⟨r, e, by omega, fun h => ⟨by omega, hs h⟩⟩
theorem Z_Cell {n : Nat} {a : S_Cell} {left : Int} (hR : R_Cell a) (h0 : 0 ≤ left) (h1 : left ≤ 1048576) (hn : 1048577 ≤ n) : ∃ r, F_laws_szCell n a left = some r ∧ r ≤ left ∧ (0 ≤ r → SM_Cell a) := by
  rw [F_laws_szCell]
  have g0 : a.Name.size ≤ 9223372036854775807 := maxLen_is ▸ hR.1
  have w0 : IntKind.wrap .i64 (left - (a.Name.size : Int)) = left - (a.Name.size : Int) := wrap64 (by omega) (by omega)
  rw [w0]
  generalize hq0 : left - (a.Name.size : Int) = r0
  by_cases h_0 : r0 < 0
  · rw [decide_eq_true h_0]; exact ⟨-1, rfl, by omega, fun h => by omega⟩
  rw [decide_eq_false h_0, cond_false]
  obtain ⟨r1, e1, l1, s1⟩ := Z_PinS (n := n) (left := r0) hR.2.2.1 (show (0 : Int) ≤ r0 by omega) (by omega) hn
  rw [e1, Option.bind_some]
  by_cases h_1 : r1 < 0
  · rw [decide_eq_true h_1]; exact ⟨-1, rfl, by omega, fun h => by omega⟩
  rw [decide_eq_false h_1, cond_false]
  obtain ⟨r2, e2, l2, s2⟩ := Z_ArcS (n := n) (left := r1) hR.2.2.2.1 (show (0 : Int) ≤ r1 by omega) (by omega) hn
  rw [e2, Option.bind_some]
  by_cases h_2 : r2 < 0
  · rw [decide_eq_true h_2]; exact ⟨-1, rfl, by omega, fun h => by omega⟩
  rw [decide_eq_false h_2, cond_false]
  obtain ⟨r3, e3, l3, s3⟩ := Z_Int64S (n := n) (left := r2) hR.2.2.2.2.1 (show (0 : Int) ≤ r2 by omega) (by omega) hn
  rw [e3, Option.bind_some]
  by_cases h_3 : r3 < 0
  · rw [decide_eq_true h_3]; exact ⟨-1, rfl, by omega, fun h => by omega⟩
  rw [decide_eq_false h_3, cond_false]
  exact ⟨_, rfl, by omega, fun _ => ⟨(by omega), trivial, s1 (by omega), s2 (by omega), s3 (by omega), trivial, trivial⟩⟩
theorem Z_CellS {n : Nat} {a : List S_Cell} {left : Int} (hR : (fun xs => xs.length ≤ 9223372036854775807 ∧ ∀ x ∈ xs, R_Cell x) a) (h0 : 0 ≤ left) (h1 : left ≤ 1048576) (hn : 1048577 ≤ n) : ∃ r, F_laws_szCellS n a left = some r ∧ r ≤ left ∧ (0 ≤ r → (fun xs => xs.length ≤ 1048576 ∧ ∀ x ∈ xs, SM_Cell x) a) := by
  have hl := hR.1
  rw [F_laws_szCellS, wrap64 (by omega) (by omega)]
  by_cases h : left - (a.length : Int) < 0
  · rw [decide_eq_true h]; exact ⟨-1, rfl, by omega, fun h => by omega⟩
  · rw [decide_eq_false h, cond_false]
    obtain ⟨r, e, hr, hs⟩ := szL (xs := a) (L := fun m l i => F_laws_szCellS_L1 n a (fun i7 i8 => (some i7)) m l i) (f := F_laws_szCell n) (SM := SM_Cell) (by omega) (fun x hx left g0 g1 => Z_Cell (hR.2 x hx) g0 g1 hn) (fun m i left hi hi2 => by simp only [F_laws_szCellS_L1.eq_2, dltE hi, cond_true, getI_elE hi, Option.bind_some, wSE hi2]) (fun m left => by simp only [F_laws_szCellS_L1.eq_2, dnlE, cond_false]) n 0 (left - (a.length : Int)) (by omega) (by omega) (by omega) (by omega) (fun j _ hj => by omega)
    exact ⟨r, e, by omega, fun h => ⟨by omega, hs h⟩⟩
theorem Z_Library {n : Nat} {a : S_Library} {left : Int} (hR : R_Library a) (h0 : 0 ≤ left) (h1 : left ≤ 1048576) (hn : 1048577 ≤ n) : ∃ r, F_laws_szLibrary n a left = some r ∧ r ≤ left ∧ (0 ≤ r → SM_Library a) := by
  rw [F_laws_szLibrary]
  obtain ⟨r0, e0, l0, s0⟩ := Z_CellS (n := n) (left := left) hR h0 h1 hn
  rw [e0, Option.bind_some]
  by_cases h_0 : r0 < 0
  · rw [decide_eq_true h_0]; exact ⟨-1, rfl, by omega, fun h => by omega⟩
  rw [decide_eq_false h_0, cond_false]
  exact ⟨_, rfl, by omega, fun _ => s0 (by omega)⟩
theorem Z_Instance {n : Nat} {a : S_Instance} {left : Int} (hR : R_Instance a) (h0 : 0 ≤ left) (h1 : left ≤ 1048576) (hn : 1048577 ≤ n) : ∃ r, F_laws_szInstance n a left = some r ∧ r ≤ left ∧ (0 ≤ r → SM_Instance a) := by
  rw [F_laws_szInstance]
  have g0 : a.Name.size ≤ 9223372036854775807 := maxLen_is ▸ hR.1
  have w0 : IntKind.wrap .i64 (left - (a.Name.size : Int)) = left - (a.Name.size : Int) := wrap64 (by omega) (by omega)
  rw [w0]
  generalize hq0 : left - (a.Name.size : Int) = r0
  by_cases h_0 : r0 < 0
  · rw [decide_eq_true h_0]; exact ⟨-1, rfl, by omega, fun h => by omega⟩
  rw [decide_eq_false h_0, cond_false]
  obtain ⟨r1, e1, l1, s1⟩ := Z_Int64S (n := n) (left := r0) hR.2.2 (show (0 : Int) ≤ r0 by omega) (by omega) hn
  rw [e1, Option.bind_some]
  by_cases h_1 : r1 < 0
  · rw [decide_eq_true h_1]; exact ⟨-1, rfl, by omega, fun h => by omega⟩
  rw [decide_eq_false h_1, cond_false]
  exact ⟨_, rfl, by omega, fun _ => ⟨(by omega), trivial, s1 (by omega)⟩⟩
theorem Z_InstanceS {n : Nat} {a : List S_Instance} {left : Int} (hR : (fun xs => xs.length ≤ 9223372036854775807 ∧ ∀ x ∈ xs, R_Instance x) a) (h0 : 0 ≤ left) (h1 : left ≤ 1048576) (hn : 1048577 ≤ n) : ∃ r, F_laws_szInstanceS n a left = some r ∧ r ≤ left ∧ (0 ≤ r → (fun xs => xs.length ≤ 1048576 ∧ ∀ x ∈ xs, SM_Instance x) a) := by
  have hl := hR.1
  rw [F_laws_szInstanceS, wrap64 (by omega) (by omega)]
  by_cases h : left - (a.length : Int) < 0
  · rw [decide_eq_true h]; exact ⟨-1, rfl, by omega, fun h => by omega⟩
  · rw [decide_eq_false h, cond_false]
    obtain ⟨r, e, hr, hs⟩ := szL (xs := a) (L := fun m l i => F_laws_szInstanceS_L1 n a (fun i7 i8 => (some i7)) m l i) (f := F_laws_szInstance n) (SM := SM_Instance) (by omega) (fun x hx left g0 g1 => Z_Instance (hR.2 x hx) g0 g1 hn) (fun m i left hi hi2 => by simp only [F_laws_szInstanceS_L1.eq_2, dltE hi, cond_true, getI_elE hi, Option.bind_some, wSE hi2]) (fun m left => by simp only [F_laws_szInstanceS_L1.eq_2, dnlE, cond_false]) n 0 (left - (a.length : Int)) (by omega) (by omega) (by omega) (by omega) (fun j _ hj => by omega)
    exact ⟨r, e, by omega, fun h => ⟨by omega, hs h⟩⟩
theorem Z_StringS {n : Nat} {a : List ByteArray} {left : Int} (hR : (fun xs => xs.length ≤ 9223372036854775807 ∧ ∀ x ∈ xs, (fun s => s.size ≤ maxLen) x) a) (h0 : 0 ≤ left) (h1 : left ≤ 1048576) (hn : 1048577 ≤ n) : ∃ r, F_laws_szStringS n a left = some r ∧ r ≤ left ∧ (0 ≤ r → (fun xs => xs.length ≤ 1048576 ∧ ∀ x ∈ xs, (fun s => s.size ≤ 1048576) x) a) := by
  have hl := hR.1
  rw [F_laws_szStringS, wrap64 (by omega) (by omega)]
  by_cases h : left - (a.length : Int) < 0
  · rw [decide_eq_true h]; exact ⟨-1, rfl, by omega, fun h => by omega⟩
  · rw [decide_eq_false h, cond_false]
    obtain ⟨r, e, hr, hs⟩ := szL (xs := a) (L := fun m l i => F_laws_szStringS_L1 a (fun i5 i6 => (some i5)) m l i) (f := fun (x : ByteArray) (l : Int) => bif decide (IntKind.wrap .i64 (l - (x.size : Int)) < 0) then some (-1) else some (IntKind.wrap .i64 (l - (x.size : Int)))) (SM := fun s => s.size ≤ 1048576) (by omega) (fun x hx l g0 g1 => by
      have g := hR.2 x hx
      have g : (x.size : Int) ≤ 9223372036854775807 := by rw [maxLen_is] at g; omega
      rw [wrap64 (by omega) (by omega)]
      by_cases h1 : l - (x.size : Int) < 0
      · exact ⟨-1, by rw [decide_eq_true h1]; rfl, by omega, fun h => by omega⟩
      · exact ⟨_, by rw [decide_eq_false h1]; rfl, by omega, fun _ => by omega⟩) (fun m i l hi hi2 => by
      simp only [F_laws_szStringS_L1.eq_2, dltE hi, cond_true, getI_elE hi, Option.bind_some, wSE hi2]
      cases h1 : decide (IntKind.wrap .i64 (l - (a[i].size : Int)) < 0) with
      | true => simp
      | false => simp only [cond_false, Option.bind_some, h1]) (fun m left => by simp only [F_laws_szStringS_L1.eq_2, dnlE, cond_false]) n 0 (left - (a.length : Int)) (by omega) (by omega) (by omega) (by omega) (fun j _ hj => by omega)
    exact ⟨r, e, by omega, fun h => ⟨by omega, hs h⟩⟩
theorem Z_Port {n : Nat} {a : S_Port} {left : Int} (hR : R_Port a) (h0 : 0 ≤ left) (h1 : left ≤ 1048576) (hn : 1048577 ≤ n) : ∃ r, F_laws_szPort n a left = some r ∧ r ≤ left ∧ (0 ≤ r → SM_Port a) := by
  rw [F_laws_szPort]
  have g0 : a.Name.size ≤ 9223372036854775807 := maxLen_is ▸ hR.1
  have w0 : IntKind.wrap .i64 (left - (a.Name.size : Int)) = left - (a.Name.size : Int) := wrap64 (by omega) (by omega)
  rw [w0]
  generalize hq0 : left - (a.Name.size : Int) = r0
  by_cases h_0 : r0 < 0
  · rw [decide_eq_true h_0]; exact ⟨-1, rfl, by omega, fun h => by omega⟩
  rw [decide_eq_false h_0, cond_false]
  exact ⟨_, rfl, by omega, fun _ => ⟨(by omega), trivial, trivial⟩⟩
theorem Z_PortS {n : Nat} {a : List S_Port} {left : Int} (hR : (fun xs => xs.length ≤ 9223372036854775807 ∧ ∀ x ∈ xs, R_Port x) a) (h0 : 0 ≤ left) (h1 : left ≤ 1048576) (hn : 1048577 ≤ n) : ∃ r, F_laws_szPortS n a left = some r ∧ r ≤ left ∧ (0 ≤ r → (fun xs => xs.length ≤ 1048576 ∧ ∀ x ∈ xs, SM_Port x) a) := by
  have hl := hR.1
  rw [F_laws_szPortS, wrap64 (by omega) (by omega)]
  by_cases h : left - (a.length : Int) < 0
  · rw [decide_eq_true h]; exact ⟨-1, rfl, by omega, fun h => by omega⟩
  · rw [decide_eq_false h, cond_false]
    obtain ⟨r, e, hr, hs⟩ := szL (xs := a) (L := fun m l i => F_laws_szPortS_L1 n a (fun i7 i8 => (some i7)) m l i) (f := F_laws_szPort n) (SM := SM_Port) (by omega) (fun x hx left g0 g1 => Z_Port (hR.2 x hx) g0 g1 hn) (fun m i left hi hi2 => by simp only [F_laws_szPortS_L1.eq_2, dltE hi, cond_true, getI_elE hi, Option.bind_some, wSE hi2]) (fun m left => by simp only [F_laws_szPortS_L1.eq_2, dnlE, cond_false]) n 0 (left - (a.length : Int)) (by omega) (by omega) (by omega) (by omega) (fun j _ hj => by omega)
    exact ⟨r, e, by omega, fun h => ⟨by omega, hs h⟩⟩
theorem Z_Design {n : Nat} {a : S_Design} {left : Int} (hR : R_Design a) (h0 : 0 ≤ left) (h1 : left ≤ 1048576) (hn : 1048577 ≤ n) : ∃ r, F_laws_szDesign n a left = some r ∧ r ≤ left ∧ (0 ≤ r → SM_Design a) := by
  rw [F_laws_szDesign]
  obtain ⟨r0, e0, l0, s0⟩ := Z_InstanceS (n := n) (left := left) hR.1 h0 h1 hn
  rw [e0, Option.bind_some]
  by_cases h_0 : r0 < 0
  · rw [decide_eq_true h_0]; exact ⟨-1, rfl, by omega, fun h => by omega⟩
  rw [decide_eq_false h_0, cond_false]
  obtain ⟨r1, e1, l1, s1⟩ := Z_StringS (n := n) (left := r0) hR.2.1 (show (0 : Int) ≤ r0 by omega) (by omega) hn
  rw [e1, Option.bind_some]
  by_cases h_1 : r1 < 0
  · rw [decide_eq_true h_1]; exact ⟨-1, rfl, by omega, fun h => by omega⟩
  rw [decide_eq_false h_1, cond_false]
  obtain ⟨r2, e2, l2, s2⟩ := Z_PortS (n := n) (left := r1) hR.2.2 (show (0 : Int) ≤ r1 by omega) (by omega) hn
  rw [e2, Option.bind_some]
  by_cases h_2 : r2 < 0
  · rw [decide_eq_true h_2]; exact ⟨-1, rfl, by omega, fun h => by omega⟩
  rw [decide_eq_false h_2, cond_false]
  exact ⟨_, rfl, by omega, fun _ => ⟨s0 (by omega), s1 (by omega), s2 (by omega)⟩⟩
theorem Z_Wire {n : Nat} {a : S_Wire} {left : Int} (hR : R_Wire a) (h0 : 0 ≤ left) (h1 : left ≤ 1048576) (hn : 1048577 ≤ n) : ∃ r, F_laws_szWire n a left = some r ∧ r ≤ left ∧ (0 ≤ r → SM_Wire a) := by
  rw [F_laws_szWire]
  obtain ⟨r0, e0, l0, s0⟩ := Z_Int64S (n := n) (left := left) hR.1 h0 h1 hn
  rw [e0, Option.bind_some]
  by_cases h_0 : r0 < 0
  · rw [decide_eq_true h_0]; exact ⟨-1, rfl, by omega, fun h => by omega⟩
  rw [decide_eq_false h_0, cond_false]
  obtain ⟨r1, e1, l1, s1⟩ := Z_Int64S (n := n) (left := r0) hR.2.1 (show (0 : Int) ≤ r0 by omega) (by omega) hn
  rw [e1, Option.bind_some]
  by_cases h_1 : r1 < 0
  · rw [decide_eq_true h_1]; exact ⟨-1, rfl, by omega, fun h => by omega⟩
  rw [decide_eq_false h_1, cond_false]
  obtain ⟨r2, e2, l2, s2⟩ := Z_Int64S (n := n) (left := r1) hR.2.2.1 (show (0 : Int) ≤ r1 by omega) (by omega) hn
  rw [e2, Option.bind_some]
  by_cases h_2 : r2 < 0
  · rw [decide_eq_true h_2]; exact ⟨-1, rfl, by omega, fun h => by omega⟩
  rw [decide_eq_false h_2, cond_false]
  obtain ⟨r3, e3, l3, s3⟩ := Z_Int64S (n := n) (left := r2) hR.2.2.2 (show (0 : Int) ≤ r2 by omega) (by omega) hn
  rw [e3, Option.bind_some]
  by_cases h_3 : r3 < 0
  · rw [decide_eq_true h_3]; exact ⟨-1, rfl, by omega, fun h => by omega⟩
  rw [decide_eq_false h_3, cond_false]
  exact ⟨_, rfl, by omega, fun _ => ⟨s0 (by omega), s1 (by omega), s2 (by omega), s3 (by omega)⟩⟩
theorem Z_WireS {n : Nat} {a : List S_Wire} {left : Int} (hR : (fun xs => xs.length ≤ 9223372036854775807 ∧ ∀ x ∈ xs, R_Wire x) a) (h0 : 0 ≤ left) (h1 : left ≤ 1048576) (hn : 1048577 ≤ n) : ∃ r, F_laws_szWireS n a left = some r ∧ r ≤ left ∧ (0 ≤ r → (fun xs => xs.length ≤ 1048576 ∧ ∀ x ∈ xs, SM_Wire x) a) := by
  have hl := hR.1
  rw [F_laws_szWireS, wrap64 (by omega) (by omega)]
  by_cases h : left - (a.length : Int) < 0
  · rw [decide_eq_true h]; exact ⟨-1, rfl, by omega, fun h => by omega⟩
  · rw [decide_eq_false h, cond_false]
    obtain ⟨r, e, hr, hs⟩ := szL (xs := a) (L := fun m l i => F_laws_szWireS_L1 n a (fun i7 i8 => (some i7)) m l i) (f := F_laws_szWire n) (SM := SM_Wire) (by omega) (fun x hx left g0 g1 => Z_Wire (hR.2 x hx) g0 g1 hn) (fun m i left hi hi2 => by simp only [F_laws_szWireS_L1.eq_2, dltE hi, cond_true, getI_elE hi, Option.bind_some, wSE hi2]) (fun m left => by simp only [F_laws_szWireS_L1.eq_2, dnlE, cond_false]) n 0 (left - (a.length : Int)) (by omega) (by omega) (by omega) (by omega) (fun j _ hj => by omega)
    exact ⟨r, e, by omega, fun h => ⟨by omega, hs h⟩⟩
theorem Z_Block {n : Nat} {a : S_Block} {left : Int} (hR : R_Block a) (h0 : 0 ≤ left) (h1 : left ≤ 1048576) (hn : 1048577 ≤ n) : ∃ r, F_laws_szBlock n a left = some r ∧ r ≤ left ∧ (0 ≤ r → SM_Block a) := by
  rw [F_laws_szBlock]
  obtain ⟨r0, e0, l0, s0⟩ := Z_Library (n := n) (left := left) hR.1 h0 h1 hn
  rw [e0, Option.bind_some]
  by_cases h_0 : r0 < 0
  · rw [decide_eq_true h_0]; exact ⟨-1, rfl, by omega, fun h => by omega⟩
  rw [decide_eq_false h_0, cond_false]
  obtain ⟨r1, e1, l1, s1⟩ := Z_Design (n := n) (left := r0) hR.2.1 (show (0 : Int) ≤ r0 by omega) (by omega) hn
  rw [e1, Option.bind_some]
  by_cases h_1 : r1 < 0
  · rw [decide_eq_true h_1]; exact ⟨-1, rfl, by omega, fun h => by omega⟩
  rw [decide_eq_false h_1, cond_false]
  obtain ⟨r2, e2, l2, s2⟩ := Z_WireS (n := n) (left := r1) hR.2.2 (show (0 : Int) ≤ r1 by omega) (by omega) hn
  rw [e2, Option.bind_some]
  by_cases h_2 : r2 < 0
  · rw [decide_eq_true h_2]; exact ⟨-1, rfl, by omega, fun h => by omega⟩
  rw [decide_eq_false h_2, cond_false]
  exact ⟨_, rfl, by omega, fun _ => ⟨s0 (by omega), s1 (by omega), s2 (by omega)⟩⟩
theorem TL_Int64S {n : Nat} {a : List Int} {k : Int → List Int → Option (List Int)} : ∀ (m : Nat) (i : Int) (l : List Int), F_laws_toInt64S_L1 a k m i l = cpL a (some) k m i l
  | 0, _, _=>rfl
  | m + 1, i, l=>by simp only [F_laws_toInt64S_L1.eq_2, cpL_s, Option.bind_some, TL_Int64S (n:=n) (a:=a) (k:=k) m]
theorem T_Int64S {n : Nat} {a : List Int} (h : (fun xs => xs.length ≤ 1048576 ∧ ∀ x ∈ xs, (fun _ => True) x) a) (hn : 1048577 ≤ n) : F_laws_toInt64S n a = some a := by
  rw [F_laws_toInt64S, mkN_ok h.1 (by omega), Option.bind_some, TL_Int64S (n := n)]
  exact cpL_id (fun x hx => rfl) h.1 hn
theorem T_Pin {n : Nat} {a : S_Pin} (h : SM_Pin a) (hn : 1048577 ≤ n) : F_laws_toPin n a = some a := by
  rfl
theorem TL_PinS {n : Nat} {a : List S_Pin} {k : Int → List S_Pin → Option (List S_Pin)} : ∀ (m : Nat) (i : Int) (l : List S_Pin), F_laws_toPinS_L1 n a k m i l = cpL a (F_laws_toPin n) k m i l
  | 0, _, _=>rfl
  | m + 1, i, l=>by simp only [F_laws_toPinS_L1.eq_2, cpL_s, Option.bind_some, TL_PinS (n:=n) (a:=a) (k:=k) m]
theorem T_PinS {n : Nat} {a : List S_Pin} (h : (fun xs => xs.length ≤ 1048576 ∧ ∀ x ∈ xs, SM_Pin x) a) (hn : 1048577 ≤ n) : F_laws_toPinS n a = some a := by
  rw [F_laws_toPinS, mkN_ok h.1 (by omega), Option.bind_some, TL_PinS (n := n)]
  exact cpL_id (fun x hx => T_Pin (h.2 x hx) hn) h.1 hn
theorem T_Table {n : Nat} {a : S_Table} (h : SM_Table a) (hn : 1048577 ≤ n) : F_laws_toTable n a = some a := by
  rw [F_laws_toTable]; simp only [T_Int64S (h.1) hn, T_Int64S (h.2.1) hn, T_Int64S (h.2.2) hn, Option.bind_some]
theorem TL_TableS {n : Nat} {a : List S_Table} {k : Int → List S_Table → Option (List S_Table)} : ∀ (m : Nat) (i : Int) (l : List S_Table), F_laws_toTableS_L1 n a k m i l = cpL a (F_laws_toTable n) k m i l
  | 0, _, _=>rfl
  | m + 1, i, l=>by simp only [F_laws_toTableS_L1.eq_2, cpL_s, Option.bind_some, TL_TableS (n:=n) (a:=a) (k:=k) m]
theorem T_TableS {n : Nat} {a : List S_Table} (h : (fun xs => xs.length ≤ 1048576 ∧ ∀ x ∈ xs, SM_Table x) a) (hn : 1048577 ≤ n) : F_laws_toTableS n a = some a := by
  rw [F_laws_toTableS, mkN_ok h.1 (by omega), Option.bind_some, TL_TableS (n := n)]
  exact cpL_id (fun x hx => T_Table (h.2 x hx) hn) h.1 hn
theorem T_Arc {n : Nat} {a : S_Arc} (h : SM_Arc a) (hn : 1048577 ≤ n) : F_laws_toArc n a = some a := by
  rw [F_laws_toArc]; simp only [T_TableS (h.2.2.2.2.1) hn, T_TableS (h.2.2.2.2.2) hn, Option.bind_some]
theorem TL_ArcS {n : Nat} {a : List S_Arc} {k : Int → List S_Arc → Option (List S_Arc)} : ∀ (m : Nat) (i : Int) (l : List S_Arc), F_laws_toArcS_L1 n a k m i l = cpL a (F_laws_toArc n) k m i l
  | 0, _, _=>rfl
  | m + 1, i, l=>by simp only [F_laws_toArcS_L1.eq_2, cpL_s, Option.bind_some, TL_ArcS (n:=n) (a:=a) (k:=k) m]
theorem T_ArcS {n : Nat} {a : List S_Arc} (h : (fun xs => xs.length ≤ 1048576 ∧ ∀ x ∈ xs, SM_Arc x) a) (hn : 1048577 ≤ n) : F_laws_toArcS n a = some a := by
  rw [F_laws_toArcS, mkN_ok h.1 (by omega), Option.bind_some, TL_ArcS (n := n)]
  exact cpL_id (fun x hx => T_Arc (h.2 x hx) hn) h.1 hn
theorem T_Cell {n : Nat} {a : S_Cell} (h : SM_Cell a) (hn : 1048577 ≤ n) : F_laws_toCell n a = some a := by
  rw [F_laws_toCell]; simp only [T_PinS (h.2.2.1) hn, T_ArcS (h.2.2.2.1) hn, T_Int64S (h.2.2.2.2.1) hn, Option.bind_some]
theorem TL_CellS {n : Nat} {a : List S_Cell} {k : Int → List S_Cell → Option (List S_Cell)} : ∀ (m : Nat) (i : Int) (l : List S_Cell), F_laws_toCellS_L1 n a k m i l = cpL a (F_laws_toCell n) k m i l
  | 0, _, _=>rfl
  | m + 1, i, l=>by simp only [F_laws_toCellS_L1.eq_2, cpL_s, Option.bind_some, TL_CellS (n:=n) (a:=a) (k:=k) m]
theorem T_CellS {n : Nat} {a : List S_Cell} (h : (fun xs => xs.length ≤ 1048576 ∧ ∀ x ∈ xs, SM_Cell x) a) (hn : 1048577 ≤ n) : F_laws_toCellS n a = some a := by
  rw [F_laws_toCellS, mkN_ok h.1 (by omega), Option.bind_some, TL_CellS (n := n)]
  exact cpL_id (fun x hx => T_Cell (h.2 x hx) hn) h.1 hn
theorem T_Library {n : Nat} {a : S_Library} (h : SM_Library a) (hn : 1048577 ≤ n) : F_laws_toLibrary n a = some a := by
  rw [F_laws_toLibrary]; simp only [T_CellS (h) hn, Option.bind_some]
theorem T_Instance {n : Nat} {a : S_Instance} (h : SM_Instance a) (hn : 1048577 ≤ n) : F_laws_toInstance n a = some a := by
  rw [F_laws_toInstance]; simp only [T_Int64S (h.2.2) hn, Option.bind_some]
theorem TL_InstanceS {n : Nat} {a : List S_Instance} {k : Int → List S_Instance → Option (List S_Instance)} : ∀ (m : Nat) (i : Int) (l : List S_Instance), F_laws_toInstanceS_L1 n a k m i l = cpL a (F_laws_toInstance n) k m i l
  | 0, _, _=>rfl
  | m + 1, i, l=>by simp only [F_laws_toInstanceS_L1.eq_2, cpL_s, Option.bind_some, TL_InstanceS (n:=n) (a:=a) (k:=k) m]
theorem T_InstanceS {n : Nat} {a : List S_Instance} (h : (fun xs => xs.length ≤ 1048576 ∧ ∀ x ∈ xs, SM_Instance x) a) (hn : 1048577 ≤ n) : F_laws_toInstanceS n a = some a := by
  rw [F_laws_toInstanceS, mkN_ok h.1 (by omega), Option.bind_some, TL_InstanceS (n := n)]
  exact cpL_id (fun x hx => T_Instance (h.2 x hx) hn) h.1 hn
theorem TL_StringS {n : Nat} {a : List ByteArray} {k : Int → List ByteArray → Option (List ByteArray)} : ∀ (m : Nat) (i : Int) (l : List ByteArray), F_laws_toStringS_L1 a k m i l = cpL a (some) k m i l
  | 0, _, _=>rfl
  | m + 1, i, l=>by simp only [F_laws_toStringS_L1.eq_2, cpL_s, Option.bind_some, TL_StringS (n:=n) (a:=a) (k:=k) m]
theorem T_StringS {n : Nat} {a : List ByteArray} (h : (fun xs => xs.length ≤ 1048576 ∧ ∀ x ∈ xs, (fun s => s.size ≤ 1048576) x) a) (hn : 1048577 ≤ n) : F_laws_toStringS n a = some a := by
  rw [F_laws_toStringS, mkN_ok h.1 (by omega), Option.bind_some, TL_StringS (n := n)]
  exact cpL_id (fun x hx => rfl) h.1 hn
theorem T_Port {n : Nat} {a : S_Port} (h : SM_Port a) (hn : 1048577 ≤ n) : F_laws_toPort n a = some a := by
  rfl
theorem TL_PortS {n : Nat} {a : List S_Port} {k : Int → List S_Port → Option (List S_Port)} : ∀ (m : Nat) (i : Int) (l : List S_Port), F_laws_toPortS_L1 n a k m i l = cpL a (F_laws_toPort n) k m i l
  | 0, _, _=>rfl
  | m + 1, i, l=>by simp only [F_laws_toPortS_L1.eq_2, cpL_s, Option.bind_some, TL_PortS (n:=n) (a:=a) (k:=k) m]
theorem T_PortS {n : Nat} {a : List S_Port} (h : (fun xs => xs.length ≤ 1048576 ∧ ∀ x ∈ xs, SM_Port x) a) (hn : 1048577 ≤ n) : F_laws_toPortS n a = some a := by
  rw [F_laws_toPortS, mkN_ok h.1 (by omega), Option.bind_some, TL_PortS (n := n)]
  exact cpL_id (fun x hx => T_Port (h.2 x hx) hn) h.1 hn
theorem T_Design {n : Nat} {a : S_Design} (h : SM_Design a) (hn : 1048577 ≤ n) : F_laws_toDesign n a = some a := by
  rw [F_laws_toDesign]; simp only [T_InstanceS (h.1) hn, T_StringS (h.2.1) hn, T_PortS (h.2.2) hn, Option.bind_some]
theorem T_Wire {n : Nat} {a : S_Wire} (h : SM_Wire a) (hn : 1048577 ≤ n) : F_laws_toWire n a = some a := by
  rw [F_laws_toWire]; simp only [T_Int64S (h.1) hn, T_Int64S (h.2.1) hn, T_Int64S (h.2.2.1) hn, T_Int64S (h.2.2.2) hn, Option.bind_some]
theorem TL_WireS {n : Nat} {a : List S_Wire} {k : Int → List S_Wire → Option (List S_Wire)} : ∀ (m : Nat) (i : Int) (l : List S_Wire), F_laws_toWireS_L1 n a k m i l = cpL a (F_laws_toWire n) k m i l
  | 0, _, _=>rfl
  | m + 1, i, l=>by simp only [F_laws_toWireS_L1.eq_2, cpL_s, Option.bind_some, TL_WireS (n:=n) (a:=a) (k:=k) m]
theorem T_WireS {n : Nat} {a : List S_Wire} (h : (fun xs => xs.length ≤ 1048576 ∧ ∀ x ∈ xs, SM_Wire x) a) (hn : 1048577 ≤ n) : F_laws_toWireS n a = some a := by
  rw [F_laws_toWireS, mkN_ok h.1 (by omega), Option.bind_some, TL_WireS (n := n)]
  exact cpL_id (fun x hx => T_Wire (h.2 x hx) hn) h.1 hn
theorem T_Block {n : Nat} {a : S_Block} (h : SM_Block a) (hn : 1048577 ≤ n) : F_laws_toBlock n a = some a := by
  rw [F_laws_toBlock]; simp only [T_Library (h.1) hn, T_Design (h.2.1) hn, T_WireS (h.2.2) hn, Option.bind_some]
theorem EL_Int64S {n : Nat} {a b : List Int} {k : Int → Option Bool} : ∀ (m : Nat) (i : Int), F_laws_eqInt64S_L1 a b k m i = eqL a b ((fun x y => some (x == y))) (some false) k m i
  | 0, _=>rfl
  | m + 1, i=>by simp only [F_laws_eqInt64S_L1.eq_2, eqL_s, Option.bind_some, bne, EL_Int64S (n:=n) (a:=a) (b:=b) (k:=k) m]
theorem E_Int64S {n : Nat} {a : List Int} (h : (fun xs => xs.length ≤ 1048576 ∧ ∀ x ∈ xs, (fun _ => True) x) a) (hn : 1048577 ≤ n) : F_laws_eqInt64S n a a = some true := by
  rw [F_laws_eqInt64S, EL_Int64S (n := n)]
  have := eqL_same (f := (fun x y => some (x == y))) (no := some false) (k := fun (i : Int) => some true) (fun x hx => by simp) h.1 n 0 (by omega) (by omega)
  simpa using this
theorem E_Pin {n : Nat} {a : S_Pin} (h : SM_Pin a) (hn : 1048577 ≤ n) : F_laws_eqPin n a a = some true := by
  simp [F_laws_eqPin]
theorem EL_PinS {n : Nat} {a b : List S_Pin} {k : Int → Option Bool} : ∀ (m : Nat) (i : Int), F_laws_eqPinS_L1 n a b k m i = eqL a b (F_laws_eqPin n) (some false) k m i
  | 0, _=>rfl
  | m + 1, i=>by simp only [F_laws_eqPinS_L1.eq_2, eqL_s, Option.bind_some, bne, EL_PinS (n:=n) (a:=a) (b:=b) (k:=k) m]
theorem E_PinS {n : Nat} {a : List S_Pin} (h : (fun xs => xs.length ≤ 1048576 ∧ ∀ x ∈ xs, SM_Pin x) a) (hn : 1048577 ≤ n) : F_laws_eqPinS n a a = some true := by
  rw [F_laws_eqPinS, EL_PinS (n := n)]
  have := eqL_same (f := F_laws_eqPin n) (no := some false) (k := fun (i : Int) => some true) (fun x hx => E_Pin (h.2 x hx) hn) h.1 n 0 (by omega) (by omega)
  simpa using this
theorem E_Table {n : Nat} {a : S_Table} (h : SM_Table a) (hn : 1048577 ≤ n) : F_laws_eqTable n a a = some true := by
  simp [F_laws_eqTable, E_Int64S (h.1) hn, E_Int64S (h.2.1) hn, E_Int64S (h.2.2) hn]
theorem EL_TableS {n : Nat} {a b : List S_Table} {k : Int → Option Bool} : ∀ (m : Nat) (i : Int), F_laws_eqTableS_L1 n a b k m i = eqL a b (F_laws_eqTable n) (some false) k m i
  | 0, _=>rfl
  | m + 1, i=>by simp only [F_laws_eqTableS_L1.eq_2, eqL_s, Option.bind_some, bne, EL_TableS (n:=n) (a:=a) (b:=b) (k:=k) m]
theorem E_TableS {n : Nat} {a : List S_Table} (h : (fun xs => xs.length ≤ 1048576 ∧ ∀ x ∈ xs, SM_Table x) a) (hn : 1048577 ≤ n) : F_laws_eqTableS n a a = some true := by
  rw [F_laws_eqTableS, EL_TableS (n := n)]
  have := eqL_same (f := F_laws_eqTable n) (no := some false) (k := fun (i : Int) => some true) (fun x hx => E_Table (h.2 x hx) hn) h.1 n 0 (by omega) (by omega)
  simpa using this
theorem E_Arc {n : Nat} {a : S_Arc} (h : SM_Arc a) (hn : 1048577 ≤ n) : F_laws_eqArc n a a = some true := by
  simp [F_laws_eqArc, E_TableS (h.2.2.2.2.1) hn, E_TableS (h.2.2.2.2.2) hn]
theorem EL_ArcS {n : Nat} {a b : List S_Arc} {k : Int → Option Bool} : ∀ (m : Nat) (i : Int), F_laws_eqArcS_L1 n a b k m i = eqL a b (F_laws_eqArc n) (some false) k m i
  | 0, _=>rfl
  | m + 1, i=>by simp only [F_laws_eqArcS_L1.eq_2, eqL_s, Option.bind_some, bne, EL_ArcS (n:=n) (a:=a) (b:=b) (k:=k) m]
theorem E_ArcS {n : Nat} {a : List S_Arc} (h : (fun xs => xs.length ≤ 1048576 ∧ ∀ x ∈ xs, SM_Arc x) a) (hn : 1048577 ≤ n) : F_laws_eqArcS n a a = some true := by
  rw [F_laws_eqArcS, EL_ArcS (n := n)]
  have := eqL_same (f := F_laws_eqArc n) (no := some false) (k := fun (i : Int) => some true) (fun x hx => E_Arc (h.2 x hx) hn) h.1 n 0 (by omega) (by omega)
  simpa using this
theorem E_Cell {n : Nat} {a : S_Cell} (h : SM_Cell a) (hn : 1048577 ≤ n) : F_laws_eqCell n a a = some true := by
  simp [F_laws_eqCell, E_PinS (h.2.2.1) hn, E_ArcS (h.2.2.2.1) hn, E_Int64S (h.2.2.2.2.1) hn]
theorem EL_CellS {n : Nat} {a b : List S_Cell} {k : Int → Option Bool} : ∀ (m : Nat) (i : Int), F_laws_eqCellS_L1 n a b k m i = eqL a b (F_laws_eqCell n) (some false) k m i
  | 0, _=>rfl
  | m + 1, i=>by simp only [F_laws_eqCellS_L1.eq_2, eqL_s, Option.bind_some, bne, EL_CellS (n:=n) (a:=a) (b:=b) (k:=k) m]
theorem E_CellS {n : Nat} {a : List S_Cell} (h : (fun xs => xs.length ≤ 1048576 ∧ ∀ x ∈ xs, SM_Cell x) a) (hn : 1048577 ≤ n) : F_laws_eqCellS n a a = some true := by
  rw [F_laws_eqCellS, EL_CellS (n := n)]
  have := eqL_same (f := F_laws_eqCell n) (no := some false) (k := fun (i : Int) => some true) (fun x hx => E_Cell (h.2 x hx) hn) h.1 n 0 (by omega) (by omega)
  simpa using this
theorem E_Library {n : Nat} {a : S_Library} (h : SM_Library a) (hn : 1048577 ≤ n) : F_laws_eqLibrary n a a = some true := by
  simp [F_laws_eqLibrary, E_CellS (h) hn]
theorem E_Instance {n : Nat} {a : S_Instance} (h : SM_Instance a) (hn : 1048577 ≤ n) : F_laws_eqInstance n a a = some true := by
  simp [F_laws_eqInstance, E_Int64S (h.2.2) hn]
theorem EL_InstanceS {n : Nat} {a b : List S_Instance} {k : Int → Option Bool} : ∀ (m : Nat) (i : Int), F_laws_eqInstanceS_L1 n a b k m i = eqL a b (F_laws_eqInstance n) (some false) k m i
  | 0, _=>rfl
  | m + 1, i=>by simp only [F_laws_eqInstanceS_L1.eq_2, eqL_s, Option.bind_some, bne, EL_InstanceS (n:=n) (a:=a) (b:=b) (k:=k) m]
theorem E_InstanceS {n : Nat} {a : List S_Instance} (h : (fun xs => xs.length ≤ 1048576 ∧ ∀ x ∈ xs, SM_Instance x) a) (hn : 1048577 ≤ n) : F_laws_eqInstanceS n a a = some true := by
  rw [F_laws_eqInstanceS, EL_InstanceS (n := n)]
  have := eqL_same (f := F_laws_eqInstance n) (no := some false) (k := fun (i : Int) => some true) (fun x hx => E_Instance (h.2 x hx) hn) h.1 n 0 (by omega) (by omega)
  simpa using this
theorem EL_StringS {n : Nat} {a b : List ByteArray} {k : Int → Option Bool} : ∀ (m : Nat) (i : Int), F_laws_eqStringS_L1 a b k m i = eqL a b ((fun x y => some (x.toList == y.toList))) (some false) k m i
  | 0, _=>rfl
  | m + 1, i=>by simp only [F_laws_eqStringS_L1.eq_2, eqL_s, Option.bind_some, bne, EL_StringS (n:=n) (a:=a) (b:=b) (k:=k) m]
theorem E_StringS {n : Nat} {a : List ByteArray} (h : (fun xs => xs.length ≤ 1048576 ∧ ∀ x ∈ xs, (fun s => s.size ≤ 1048576) x) a) (hn : 1048577 ≤ n) : F_laws_eqStringS n a a = some true := by
  rw [F_laws_eqStringS, EL_StringS (n := n)]
  have := eqL_same (f := (fun x y => some (x.toList == y.toList))) (no := some false) (k := fun (i : Int) => some true) (fun x hx => by simp) h.1 n 0 (by omega) (by omega)
  simpa using this
theorem E_Port {n : Nat} {a : S_Port} (h : SM_Port a) (hn : 1048577 ≤ n) : F_laws_eqPort n a a = some true := by
  simp [F_laws_eqPort]
theorem EL_PortS {n : Nat} {a b : List S_Port} {k : Int → Option Bool} : ∀ (m : Nat) (i : Int), F_laws_eqPortS_L1 n a b k m i = eqL a b (F_laws_eqPort n) (some false) k m i
  | 0, _=>rfl
  | m + 1, i=>by simp only [F_laws_eqPortS_L1.eq_2, eqL_s, Option.bind_some, bne, EL_PortS (n:=n) (a:=a) (b:=b) (k:=k) m]
theorem E_PortS {n : Nat} {a : List S_Port} (h : (fun xs => xs.length ≤ 1048576 ∧ ∀ x ∈ xs, SM_Port x) a) (hn : 1048577 ≤ n) : F_laws_eqPortS n a a = some true := by
  rw [F_laws_eqPortS, EL_PortS (n := n)]
  have := eqL_same (f := F_laws_eqPort n) (no := some false) (k := fun (i : Int) => some true) (fun x hx => E_Port (h.2 x hx) hn) h.1 n 0 (by omega) (by omega)
  simpa using this
theorem E_Design {n : Nat} {a : S_Design} (h : SM_Design a) (hn : 1048577 ≤ n) : F_laws_eqDesign n a a = some true := by
  simp [F_laws_eqDesign, E_InstanceS (h.1) hn, E_StringS (h.2.1) hn, E_PortS (h.2.2) hn]
theorem E_Wire {n : Nat} {a : S_Wire} (h : SM_Wire a) (hn : 1048577 ≤ n) : F_laws_eqWire n a a = some true := by
  simp [F_laws_eqWire, E_Int64S (h.1) hn, E_Int64S (h.2.1) hn, E_Int64S (h.2.2.1) hn, E_Int64S (h.2.2.2) hn]
theorem EL_WireS {n : Nat} {a b : List S_Wire} {k : Int → Option Bool} : ∀ (m : Nat) (i : Int), F_laws_eqWireS_L1 n a b k m i = eqL a b (F_laws_eqWire n) (some false) k m i
  | 0, _=>rfl
  | m + 1, i=>by simp only [F_laws_eqWireS_L1.eq_2, eqL_s, Option.bind_some, bne, EL_WireS (n:=n) (a:=a) (b:=b) (k:=k) m]
theorem E_WireS {n : Nat} {a : List S_Wire} (h : (fun xs => xs.length ≤ 1048576 ∧ ∀ x ∈ xs, SM_Wire x) a) (hn : 1048577 ≤ n) : F_laws_eqWireS n a a = some true := by
  rw [F_laws_eqWireS, EL_WireS (n := n)]
  have := eqL_same (f := F_laws_eqWire n) (no := some false) (k := fun (i : Int) => some true) (fun x hx => E_Wire (h.2 x hx) hn) h.1 n 0 (by omega) (by omega)
  simpa using this
theorem E_Block {n : Nat} {a : S_Block} (h : SM_Block a) (hn : 1048577 ≤ n) : F_laws_eqBlock n a a = some true := by
  simp [F_laws_eqBlock, E_Library (h.1) hn, E_Design (h.2.1) hn, E_WireS (h.2.2) hn]
theorem Z_BoolS {n : Nat} {a : List Bool} {left : Int} (hR : (fun xs => xs.length ≤ 9223372036854775807 ∧ ∀ x ∈ xs, (fun _ => True) x) a) (h0 : 0 ≤ left) (h1 : left ≤ 1048576) (hn : 1048577 ≤ n) : ∃ r, F_laws_szBoolS n a left = some r ∧ r ≤ left ∧ (0 ≤ r → (fun xs => xs.length ≤ 1048576 ∧ ∀ x ∈ xs, (fun _ => True) x) a) := by
  have hl := hR.1
  rw [F_laws_szBoolS, wrap64 (by omega) (by omega)]
  by_cases h : left - (a.length : Int) < 0
  · rw [decide_eq_true h]; exact ⟨-1, rfl, by omega, fun h => by omega⟩
  · rw [decide_eq_false h]; exact ⟨_, rfl, by omega, fun _ => ⟨by omega, fun x _ => trivial⟩⟩
theorem Z_SpanS {n : Nat} {a : List S_Span} {left : Int} (hR : (fun xs => xs.length ≤ 9223372036854775807 ∧ ∀ x ∈ xs, R_Span x) a) (h0 : 0 ≤ left) (h1 : left ≤ 1048576) (hn : 1048577 ≤ n) : ∃ r, F_laws_szSpanS n a left = some r ∧ r ≤ left ∧ (0 ≤ r → (fun xs => xs.length ≤ 1048576 ∧ ∀ x ∈ xs, SM_Span x) a) := by
  have hl := hR.1
  rw [F_laws_szSpanS, wrap64 (by omega) (by omega)]
  by_cases h : left - (a.length : Int) < 0
  · rw [decide_eq_true h]; exact ⟨-1, rfl, by omega, fun h => by omega⟩
  · rw [decide_eq_false h]; exact ⟨_, rfl, by omega, fun _ => ⟨by omega, fun x _ => ⟨trivial, trivial⟩⟩⟩
theorem Z_Needs {n : Nat} {a : S_Needs} {left : Int} (hR : R_Needs a) (h0 : 0 ≤ left) (h1 : left ≤ 1048576) (hn : 1048577 ≤ n) : ∃ r, F_laws_szNeeds n a left = some r ∧ r ≤ left ∧ (0 ≤ r → SM_Needs a) := by
  rw [F_laws_szNeeds]
  obtain ⟨r0, e0, l0, s0⟩ := Z_BoolS (n := n) (left := left) hR.1 h0 h1 hn
  rw [e0, Option.bind_some]
  by_cases h_0 : r0 < 0
  · rw [decide_eq_true h_0]; exact ⟨-1, rfl, by omega, fun h => by omega⟩
  rw [decide_eq_false h_0, cond_false]
  obtain ⟨r1, e1, l1, s1⟩ := Z_SpanS (n := n) (left := r0) hR.2 (show (0 : Int) ≤ r0 by omega) (by omega) hn
  rw [e1, Option.bind_some]
  by_cases h_1 : r1 < 0
  · rw [decide_eq_true h_1]; exact ⟨-1, rfl, by omega, fun h => by omega⟩
  rw [decide_eq_false h_1, cond_false]
  exact ⟨_, rfl, by omega, fun _ => ⟨s0 (by omega), s1 (by omega)⟩⟩
theorem TL_BoolS {n : Nat} {a : List Bool} {k : Int → List Bool → Option (List Bool)} : ∀ (m : Nat) (i : Int) (l : List Bool), F_laws_toBoolS_L1 a k m i l = cpL a (some) k m i l
  | 0, _, _=>rfl
  | m + 1, i, l=>by simp only [F_laws_toBoolS_L1.eq_2, cpL_s, Option.bind_some, TL_BoolS (n:=n) (a:=a) (k:=k) m]
theorem T_BoolS {n : Nat} {a : List Bool} (h : (fun xs => xs.length ≤ 1048576 ∧ ∀ x ∈ xs, (fun _ => True) x) a) (hn : 1048577 ≤ n) : F_laws_toBoolS n a = some a := by
  rw [F_laws_toBoolS, mkN_ok h.1 (by omega), Option.bind_some, TL_BoolS (n := n)]
  exact cpL_id (fun x hx => rfl) h.1 hn
theorem T_Span {n : Nat} {a : S_Span} (h : SM_Span a) (hn : 1048577 ≤ n) : F_laws_toSpan n a = some a := by
  rfl
theorem TL_SpanS {n : Nat} {a : List S_Span} {k : Int → List S_Span → Option (List S_Span)} : ∀ (m : Nat) (i : Int) (l : List S_Span), F_laws_toSpanS_L1 n a k m i l = cpL a (F_laws_toSpan n) k m i l
  | 0, _, _=>rfl
  | m + 1, i, l=>by simp only [F_laws_toSpanS_L1.eq_2, cpL_s, Option.bind_some, TL_SpanS (n:=n) (a:=a) (k:=k) m]
theorem T_SpanS {n : Nat} {a : List S_Span} (h : (fun xs => xs.length ≤ 1048576 ∧ ∀ x ∈ xs, SM_Span x) a) (hn : 1048577 ≤ n) : F_laws_toSpanS n a = some a := by
  rw [F_laws_toSpanS, mkN_ok h.1 (by omega), Option.bind_some, TL_SpanS (n := n)]
  exact cpL_id (fun x hx => T_Span (h.2 x hx) hn) h.1 hn
theorem T_Needs {n : Nat} {a : S_Needs} (h : SM_Needs a) (hn : 1048577 ≤ n) : F_laws_toNeeds n a = some a := by
  rw [F_laws_toNeeds]; simp only [T_BoolS (h.1) hn, T_SpanS (h.2) hn, Option.bind_some]
theorem EL_BoolS {n : Nat} {a b : List Bool} {k : Int → Option Bool} : ∀ (m : Nat) (i : Int), F_laws_eqBoolS_L1 a b k m i = eqL a b ((fun x y => some (x == y))) (some false) k m i
  | 0, _=>rfl
  | m + 1, i=>by simp only [F_laws_eqBoolS_L1.eq_2, eqL_s, Option.bind_some, bne, EL_BoolS (n:=n) (a:=a) (b:=b) (k:=k) m]
theorem E_BoolS {n : Nat} {a : List Bool} (h : (fun xs => xs.length ≤ 1048576 ∧ ∀ x ∈ xs, (fun _ => True) x) a) (hn : 1048577 ≤ n) : F_laws_eqBoolS n a a = some true := by
  rw [F_laws_eqBoolS, EL_BoolS (n := n)]
  have := eqL_same (f := (fun x y => some (x == y))) (no := some false) (k := fun (i : Int) => some true) (fun x hx => by simp) h.1 n 0 (by omega) (by omega)
  simpa using this
theorem E_Span {n : Nat} {a : S_Span} (h : SM_Span a) (hn : 1048577 ≤ n) : F_laws_eqSpan n a a = some true := by
  simp [F_laws_eqSpan]
theorem EL_SpanS {n : Nat} {a b : List S_Span} {k : Int → Option Bool} : ∀ (m : Nat) (i : Int), F_laws_eqSpanS_L1 n a b k m i = eqL a b (F_laws_eqSpan n) (some false) k m i
  | 0, _=>rfl
  | m + 1, i=>by simp only [F_laws_eqSpanS_L1.eq_2, eqL_s, Option.bind_some, bne, EL_SpanS (n:=n) (a:=a) (b:=b) (k:=k) m]
theorem E_SpanS {n : Nat} {a : List S_Span} (h : (fun xs => xs.length ≤ 1048576 ∧ ∀ x ∈ xs, SM_Span x) a) (hn : 1048577 ≤ n) : F_laws_eqSpanS n a a = some true := by
  rw [F_laws_eqSpanS, EL_SpanS (n := n)]
  have := eqL_same (f := F_laws_eqSpan n) (no := some false) (k := fun (i : Int) => some true) (fun x hx => E_Span (h.2 x hx) hn) h.1 n 0 (by omega) (by omega)
  simpa using this
theorem E_Needs {n : Nat} {a : S_Needs} (h : SM_Needs a) (hn : 1048577 ≤ n) : F_laws_eqNeeds n a a = some true := by
  simp [F_laws_eqNeeds, E_BoolS (h.1) hn, E_SpanS (h.2) hn]
theorem Z_Timing {n : Nat} {a : S_Timing} {left : Int} (hR : R_Timing a) (h0 : 0 ≤ left) (h1 : left ≤ 1048576) (hn : 1048577 ≤ n) : ∃ r, F_laws_szTiming n a left = some r ∧ r ≤ left ∧ (0 ≤ r → SM_Timing a) := by
  rw [F_laws_szTiming]
  obtain ⟨r0, e0, l0, s0⟩ := Z_BoolS (n := n) (left := left) hR.1 h0 h1 hn
  rw [e0, Option.bind_some]
  by_cases h_0 : r0 < 0
  · rw [decide_eq_true h_0]; exact ⟨-1, rfl, by omega, fun h => by omega⟩
  rw [decide_eq_false h_0, cond_false]
  obtain ⟨r1, e1, l1, s1⟩ := Z_SpanS (n := n) (left := r0) hR.2.1 (show (0 : Int) ≤ r0 by omega) (by omega) hn
  rw [e1, Option.bind_some]
  by_cases h_1 : r1 < 0
  · rw [decide_eq_true h_1]; exact ⟨-1, rfl, by omega, fun h => by omega⟩
  rw [decide_eq_false h_1, cond_false]
  obtain ⟨r2, e2, l2, s2⟩ := Z_SpanS (n := n) (left := r1) hR.2.2 (show (0 : Int) ≤ r1 by omega) (by omega) hn
  rw [e2, Option.bind_some]
  by_cases h_2 : r2 < 0
  · rw [decide_eq_true h_2]; exact ⟨-1, rfl, by omega, fun h => by omega⟩
  rw [decide_eq_false h_2, cond_false]
  exact ⟨_, rfl, by omega, fun _ => ⟨s0 (by omega), s1 (by omega), s2 (by omega)⟩⟩
theorem T_Timing {n : Nat} {a : S_Timing} (h : SM_Timing a) (hn : 1048577 ≤ n) : F_laws_toTiming n a = some a := by
  rw [F_laws_toTiming]; simp only [T_BoolS (h.1) hn, T_SpanS (h.2.1) hn, T_SpanS (h.2.2) hn, Option.bind_some]
theorem E_Timing {n : Nat} {a : S_Timing} (h : SM_Timing a) (hn : 1048577 ≤ n) : F_laws_eqTiming n a a = some true := by
  simp [F_laws_eqTiming, E_BoolS (h.1) hn, E_SpanS (h.2.1) hn, E_SpanS (h.2.2) hn]
theorem Rd_2 : Rd Tryz.prog 2 (cInt .i64) (inK .i64) := Rd.int Tryz.underlying2
theorem Rd_9 : Rd Tryz.prog 9 cStr (fun s => s.size ≤ maxLen) := Rd.str Tryz.underlying9
theorem Rd_4 : Rd Tryz.prog 4 cBool (fun _ => True) := Rd.bool Tryz.underlying4
theorem Rd_323 : Rd Tryz.prog 323 C_Pin R_Pin := Rd.map (Rd.struct (fs := [_, _, _, _]) Tryz.underlying323 (by kernel_rfl) (RdF.cons Rd_9 rfl (by kernel_rfl) (RdF.cons Rd_2 rfl (by kernel_rfl) (RdF.cons Rd_2 rfl (by kernel_rfl) (RdF.one Rd_4 rfl (by kernel_rfl)))))) (fun (x : S_Pin) => (x.Name, x.Dir, x.Cap, x.Clock)) (fun p => (⟨p.1, p.2.1, p.2.2.1, p.2.2.2⟩ : S_Pin)) (fun _ => rfl)
theorem Rd_261 : Rd Tryz.prog 261 (cSl C_Pin) (fun xs => xs.length ≤ 9223372036854775807 ∧ ∀ x ∈ xs, R_Pin x) := Rd.slice Tryz.underlying261 (by kernel_rfl) rfl Rd_323
theorem Rd_75 : Rd Tryz.prog 75 (cSl (cInt .i64)) (fun xs => xs.length ≤ 9223372036854775807 ∧ ∀ x ∈ xs, (inK .i64) x) := Rd.slice Tryz.underlying75 (by kernel_rfl) rfl Rd_2
theorem Rd_358 : Rd Tryz.prog 358 C_Table R_Table := Rd.map (Rd.struct (fs := [_, _, _]) Tryz.underlying358 (by kernel_rfl) (RdF.cons Rd_75 rfl (by kernel_rfl) (RdF.cons Rd_75 rfl (by kernel_rfl) (RdF.one Rd_75 rfl (by kernel_rfl))))) (fun (x : S_Table) => (x.Slews, x.Loads, x.Values)) (fun p => (⟨p.1, p.2.1, p.2.2⟩ : S_Table)) (fun _ => rfl)
theorem Rd_325 : Rd Tryz.prog 325 (cSl C_Table) (fun xs => xs.length ≤ 9223372036854775807 ∧ ∀ x ∈ xs, R_Table x) := Rd.slice Tryz.underlying325 (by kernel_rfl) rfl Rd_358
theorem Rd_327 : Rd Tryz.prog 327 C_Arc R_Arc := Rd.map (Rd.struct (fs := [_, _, _, _, _, _]) Tryz.underlying327 (by kernel_rfl) (RdF.cons Rd_2 rfl (by kernel_rfl) (RdF.cons Rd_2 rfl (by kernel_rfl) (RdF.cons Rd_2 rfl (by kernel_rfl) (RdF.cons Rd_2 rfl (by kernel_rfl) (RdF.cons Rd_325 rfl (by kernel_rfl) (RdF.one Rd_325 rfl (by kernel_rfl)))))))) (fun (x : S_Arc) => (x.Kind, x.From, x.To, x.Sense, x.Delay, x.Slew)) (fun p => (⟨p.1, p.2.1, p.2.2.1, p.2.2.2.1, p.2.2.2.2.1, p.2.2.2.2.2⟩ : S_Arc)) (fun _ => rfl)
theorem Rd_262 : Rd Tryz.prog 262 (cSl C_Arc) (fun xs => xs.length ≤ 9223372036854775807 ∧ ∀ x ∈ xs, R_Arc x) := Rd.slice Tryz.underlying262 (by kernel_rfl) rfl Rd_327
theorem Rd_264 : Rd Tryz.prog 264 C_Cell R_Cell := Rd.map (Rd.struct (fs := [_, _, _, _, _, _, _]) Tryz.underlying264 (by kernel_rfl) (RdF.cons Rd_9 rfl (by kernel_rfl) (RdF.cons Rd_2 rfl (by kernel_rfl) (RdF.cons Rd_261 rfl (by kernel_rfl) (RdF.cons Rd_262 rfl (by kernel_rfl) (RdF.cons Rd_75 rfl (by kernel_rfl) (RdF.cons Rd_2 rfl (by kernel_rfl) (RdF.one Rd_2 rfl (by kernel_rfl))))))))) (fun (x : S_Cell) => (x.Name, x.Kind, x.Pins, x.Arcs, x.Truth, x.Leak, x.Energy)) (fun p => (⟨p.1, p.2.1, p.2.2.1, p.2.2.2.1, p.2.2.2.2.1, p.2.2.2.2.2.1, p.2.2.2.2.2.2⟩ : S_Cell)) (fun _ => rfl)
theorem Rd_22 : Rd Tryz.prog 22 (cSl C_Cell) (fun xs => xs.length ≤ 9223372036854775807 ∧ ∀ x ∈ xs, R_Cell x) := Rd.slice Tryz.underlying22 (by kernel_rfl) rfl Rd_264
theorem Rd_24 : Rd Tryz.prog 24 C_Library R_Library := Rd.map (Rd.struct (fs := [_]) Tryz.underlying24 (by kernel_rfl) (RdF.one Rd_22 rfl (by kernel_rfl))) (fun (x : S_Library) => x.Cells) (fun p => (⟨p⟩ : S_Library)) (fun _ => rfl)
theorem Rd_266 : Rd Tryz.prog 266 C_Instance R_Instance := Rd.map (Rd.struct (fs := [_, _, _]) Tryz.underlying266 (by kernel_rfl) (RdF.cons Rd_9 rfl (by kernel_rfl) (RdF.cons Rd_2 rfl (by kernel_rfl) (RdF.one Rd_75 rfl (by kernel_rfl))))) (fun (x : S_Instance) => (x.Name, x.Cell, x.Nets)) (fun p => (⟨p.1, p.2.1, p.2.2⟩ : S_Instance)) (fun _ => rfl)
theorem Rd_25 : Rd Tryz.prog 25 (cSl C_Instance) (fun xs => xs.length ≤ 9223372036854775807 ∧ ∀ x ∈ xs, R_Instance x) := Rd.slice Tryz.underlying25 (by kernel_rfl) rfl Rd_266
theorem Rd_26 : Rd Tryz.prog 26 (cSl cStr) (fun xs => xs.length ≤ 9223372036854775807 ∧ ∀ x ∈ xs, (fun s => s.size ≤ maxLen) x) := Rd.slice Tryz.underlying26 (by kernel_rfl) rfl Rd_9
theorem Rd_268 : Rd Tryz.prog 268 C_Port R_Port := Rd.map (Rd.struct (fs := [_, _, _]) Tryz.underlying268 (by kernel_rfl) (RdF.cons Rd_9 rfl (by kernel_rfl) (RdF.cons Rd_2 rfl (by kernel_rfl) (RdF.one Rd_2 rfl (by kernel_rfl))))) (fun (x : S_Port) => (x.Name, x.Dir, x.Net)) (fun p => (⟨p.1, p.2.1, p.2.2⟩ : S_Port)) (fun _ => rfl)
theorem Rd_27 : Rd Tryz.prog 27 (cSl C_Port) (fun xs => xs.length ≤ 9223372036854775807 ∧ ∀ x ∈ xs, R_Port x) := Rd.slice Tryz.underlying27 (by kernel_rfl) rfl Rd_268
theorem Rd_29 : Rd Tryz.prog 29 C_Design R_Design := Rd.map (Rd.struct (fs := [_, _, _]) Tryz.underlying29 (by kernel_rfl) (RdF.cons Rd_25 rfl (by kernel_rfl) (RdF.cons Rd_26 rfl (by kernel_rfl) (RdF.one Rd_27 rfl (by kernel_rfl))))) (fun (x : S_Design) => (x.Instances, x.Nets, x.Ports)) (fun p => (⟨p.1, p.2.1, p.2.2⟩ : S_Design)) (fun _ => rfl)
theorem Rd_202 : Rd Tryz.prog 202 C_Wire R_Wire := Rd.map (Rd.struct (fs := [_, _, _, _]) Tryz.underlying202 (by kernel_rfl) (RdF.cons Rd_75 rfl (by kernel_rfl) (RdF.cons Rd_75 rfl (by kernel_rfl) (RdF.cons Rd_75 rfl (by kernel_rfl) (RdF.one Rd_75 rfl (by kernel_rfl)))))) (fun (x : S_Wire) => (x.Parent, x.Res, x.Cap, x.Sink)) (fun p => (⟨p.1, p.2.1, p.2.2.1, p.2.2.2⟩ : S_Wire)) (fun _ => rfl)
theorem Rd_30 : Rd Tryz.prog 30 (cSl C_Wire) (fun xs => xs.length ≤ 9223372036854775807 ∧ ∀ x ∈ xs, R_Wire x) := Rd.slice Tryz.underlying30 (by kernel_rfl) rfl Rd_202
theorem Rd_32 : Rd Tryz.prog 32 C_Block R_Block := Rd.map (Rd.struct (fs := [_, _, _]) Tryz.underlying32 (by kernel_rfl) (RdF.cons Rd_24 rfl (by kernel_rfl) (RdF.cons Rd_29 rfl (by kernel_rfl) (RdF.one Rd_30 rfl (by kernel_rfl))))) (fun (x : S_Block) => (x.Library, x.Design, x.Wires)) (fun p => (⟨p.1, p.2.1, p.2.2⟩ : S_Block)) (fun _ => rfl)
theorem Rd_53 : Rd Tryz.prog 53 (cSl cBool) (fun xs => xs.length ≤ 9223372036854775807 ∧ ∀ x ∈ xs, (fun _ => True) x) := Rd.slice Tryz.underlying53 (by kernel_rfl) rfl Rd_4
theorem Rd_118 : Rd Tryz.prog 118 C_Span R_Span := Rd.map (Rd.struct (fs := [_, _]) Tryz.underlying118 (by kernel_rfl) (RdF.cons Rd_2 rfl (by kernel_rfl) (RdF.one Rd_2 rfl (by kernel_rfl)))) (fun (x : S_Span) => (x.Early, x.Late)) (fun p => (⟨p.1, p.2⟩ : S_Span)) (fun _ => rfl)
theorem Rd_54 : Rd Tryz.prog 54 (cSl C_Span) (fun xs => xs.length ≤ 9223372036854775807 ∧ ∀ x ∈ xs, R_Span x) := Rd.slice Tryz.underlying54 (by kernel_rfl) rfl Rd_118
theorem Rd_56 : Rd Tryz.prog 56 C_Needs R_Needs := Rd.map (Rd.struct (fs := [_, _]) Tryz.underlying56 (by kernel_rfl) (RdF.cons Rd_53 rfl (by kernel_rfl) (RdF.one Rd_54 rfl (by kernel_rfl)))) (fun (x : S_Needs) => (x.Bound, x.Required)) (fun p => (⟨p.1, p.2⟩ : S_Needs)) (fun _ => rfl)
theorem Rd_66 : Rd Tryz.prog 66 C_Timing R_Timing := Rd.map (Rd.struct (fs := [_, _, _]) Tryz.underlying66 (by kernel_rfl) (RdF.cons Rd_53 rfl (by kernel_rfl) (RdF.cons Rd_54 rfl (by kernel_rfl) (RdF.one Rd_54 rfl (by kernel_rfl))))) (fun (x : S_Timing) => (x.Reached, x.Arrival, x.Slew)) (fun p => (⟨p.1, p.2.1, p.2.2⟩ : S_Timing)) (fun _ => rfl)
end Go.Proofs.YtjijjanefcaakaaGreatDoor
