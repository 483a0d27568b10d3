/- The walks: every function that FnExactViolatedChecks reaches computes the plain function that is typed beside it; no condition. -/
import Derived.Test.YtjhainjcamfohaaWalkFnExactViolatedChecksB0
set_option linter.all false
set_option maxRecDepth 20000
set_option maxHeartbeats 40000000
namespace Go.Proofs.Ytjhainjcamfohaa
open Go Go.RowKit Go.Eng Go.Proofs.Try
open Go.IntKind (wrap)
variable {n H:Nat} {w:World}
def F_h (n:Nat) (a0:List S_Check) (a1:Int):Option Int:=(bif decide (wrap .i64 (a1 - ((a0.length:Int))) < 0) then (some (-1)) else (some (wrap .i64 (a1 - ((a0.length:Int))))))
theorem W_h {B:List S_Check} {C:Int} {r:Int} {D:Value} (hF:F_h n B C = some r) (hH:H ≤ w.heap.size) (E:slRep C_Check w (Iv 0 H) B D) :
    Calls prog 9 [D,.i C].toArray w (Ret fun u F => u = .i r∧Ext w F):=by
  refine calls_ofD func9 rfl ntmps9 ?_;have A:=Ext.refl w;unfold F_h at hF;refine Rc 9 (Yl rfl (yle rfl underlying30 (E.oh hH A)) (Ro 11 (Wc rfl hF ?_ ?_)))
  · intro hF;refine Rc 7 ?_;cases szt hF;exact Ne rfl rfl ⟨_,rfl,rfl,A⟩
  · intro hF;refine Rc 9 ?_;cases szt hF;exact Ne rfl rfl ⟨_,rfl,rfl,A⟩
def F_i (n:Nat) (a0:S_Check):Option S_Check:=(some a0)
theorem W_i {A:S_Check} {r:S_Check} (hF:F_i n A = some r) :
    Calls prog 22 [.agg #[.i A.Instance,.i A.Arc,.i A.Transition,.i A.Slack]].toArray w (Ret fun u J => u = .agg #[.i r.Instance,.i r.Arc,.i r.Transition,.i r.Slack]∧Ext w J):=by
  refine calls_ofD func22 rfl ntmps22 ?_;have T:=Ext.refl w;unfold F_i at hF;refine Rc 2 (Ef rfl (eff_box rfl rfl) ?_);rintro _ J ⟨N,rfl,o,p,c,B⟩;have B:Box J N [.i A.Instance,.i A.Arc,.i A.Transition,.i A.Slack] 44:=B;have ⟨b,A0⟩:=Et T c;refine Ef rfl (eff_alloc rfl zn_28) ?_;rintro _ C0 ⟨K,rfl,j,k,L,C⟩;have ⟨U,q⟩:=Et b L;have B:=B.ext L;refine Ro 4 (Ef rfl (eff_alloc rfl zn_28) ?_);rintro _ B0 ⟨E,rfl,l,m,F,D⟩;have ⟨V,s⟩:=Et U F;have B:=B.ext F;have C:=C.ext F;refine Ro 4 (Yl rfl (yfa rfl fo_44_0) (Yl rfl (ylb rfl ag_2 B rfl) (Yl rfl (yfa rfl fo_28_0) (Ef rfl (est rfl D cn_2 rfl rfl) ?_))));rintro _ e ⟨G,O⟩;have ⟨W,t⟩:=Eu V G (by omega);have B:=B.upd G (by omega);have C:=C.upd G (by omega);have D:Box e E [.i A.Instance,.i 0,.i 0,.i 0] 28:=O;refine Ro 4 (Yl rfl (yfa rfl fo_44_1) (Yl rfl (ylb rfl ag_2 B rfl) (Yl rfl (yfa rfl fo_28_1) (Ef rfl (est rfl D cn_2 rfl rfl) ?_))));rintro _ f ⟨H,P⟩;have ⟨X,v⟩:=Eu W H (by omega);have B:=B.upd H (by omega);have C:=C.upd H (by omega);have D:Box f E [.i A.Instance,.i A.Arc,.i 0,.i 0] 28:=P;refine Ro 4 (Yl rfl (yfa rfl fo_44_2) (Yl rfl (ylb rfl ag_2 B rfl) (Yl rfl (yfa rfl fo_28_2) (Ef rfl (est rfl D cn_2 rfl rfl) ?_))));rintro _ g ⟨I,Q⟩;have ⟨Y,x⟩:=Eu X I (by omega);have B:=B.upd I (by omega);have C:=C.upd I (by omega);have D:Box g E [.i A.Instance,.i A.Arc,.i A.Transition,.i 0] 28:=Q;refine Ro 4 (Yl rfl (yfa rfl fo_44_3) (Yl rfl (ylb rfl ag_2 B rfl) (Yl rfl (yfa rfl fo_28_3) (Ef rfl (est rfl D cn_2 rfl rfl) ?_))));rintro _ h ⟨M,R⟩;have ⟨Z,y⟩:=Eu Y M (by omega);have C:=C.upd M (by omega);have D:Box h E [.i A.Instance,.i A.Arc,.i A.Transition,.i A.Slack] 28:=R;refine Ro 4 (Yl rfl (ynb rfl ag_28 D cn_28) (Ef rfl (est rfl C cn_28 rfl rfl) ?_));rintro _ i ⟨d,S⟩;have ⟨a,z⟩:=Eu Z d (by omega);have C:Box i K [.i A.Instance,.i A.Arc,.i A.Transition,.i A.Slack] 28:=S;refine Ro 3 ?_;obtain rfl:=(szs hF);exact NX.end (rs:=[.cell 2 28]) (vs:=[.agg #[.i A.Instance,.i A.Arc,.i A.Transition,.i A.Slack]]) rfl ⟨⟨K,rfl,box_load ag_28 cn_28 C⟩,trivial⟩ ⟨_,rfl,rfl,a⟩
def F_6_L1 (n:Nat) (a0:List S_Check) (k0:Int→(List S_Check)→Option (List S_Check)):Nat→Int→(List S_Check)→Option (List S_Check)
  | 0, _, _=>none
  | m + 1, i19, l20=>(bif decide (i19 < (a0.length:Int)) then ((getI a0 i19).bind fun x22=>((F_i n x22).bind fun r31=>((getI l20 i19).bind fun x37=>(F_6_L1 n a0 k0 m (wrap .i64 (i19 + 1)) ((l20.set (i19).toNat r31)))))) else (k0 i19 l20))
def F_6 (n:Nat) (a0:List S_Check):Option (List S_Check):=((mkN ((a0.length:Int)) 32).bind fun n3=>(F_6_L1 n a0 (fun i19 l20=>(some l20)) n 0 (List.replicate n3 ((S_Check.mk 0 0 0 0)))))
theorem W_6 {I:List S_Check} {r:List S_Check} {K:Value} (hF:F_6 n I = some r) (hH:H ≤ w.heap.size) (J:slRep C_Check w (Iv 0 H) I K) :
    Calls prog 11 [K].toArray w (Ret fun u T => ∃ R,u = R∧ownR C_Check T w.heap.size (Iv 0 0) 28 r R∧Ext w T):=by
  refine calls_ofD func11 rfl ntmps11 ?_;have L:=Ext.refl w;unfold F_6 at hF;refine Rc 8 (Yl rfl (yle rfl underlying30 (J.oh hH L)) ?_);have ⟨p,d,hF⟩:=bsome hF;refine Ef rfl (eff_make (c:=C_Check) (z:=(S_Check.mk 0 0 0 0)) rfl underlying24 in_28 rfl rfl rfl d rfl rfl (fun _ => C_Check_mk)) ?_;rintro S q ⟨U,O,v,y,m,i⟩;have ⟨Y,A0⟩:=Et L m;have V:=bd_of O;clear O;refine Ro 10 ?_;refine WC.loopD (fun E a wl => ∃ (A:Int) (B:List S_Check),Kn 23 [(0,K),(3,S),(4,.i A)] a∧Ext w wl∧q.heap.size ≤ wl.heap.size∧ownR C_Check wl (U) (Iv 0 0) 28 B S∧F_6_L1 n I (fun A B => (some B)) E A B = some r) n ?_ ?_
  · intro a hK;exact ⟨0,(List.replicate p ((S_Check.mk 0 0 0 0))),hK.sub rfl,Y,Nat.le_refl _,i,hF⟩
  · rintro E a H0 ⟨A,B,hK,F,B0,D,hF⟩;revert a;change WC _ _ _ _ _ _
    cases E with
    | zero => exact nos hF
    | succ E =>
      rw [F_6_L1.eq_2] at hF;refine Rc 5 (Yl rfl (yle rfl underlying30 (J.oh hH F)) (Ro 3 (Wc rfl hF ?_ ?_)))
      · intro hF;refine Rc 9 ?_;have ⟨G,o,hF⟩:=bsome hF;refine Ye rfl (yix rfl underlying30 cn_44 (J.oh hH F) o) ?_;rintro _ ⟨s,E0,F0,rfl,x,e,W⟩;obtain rfl:=C_Check_open e;refine Yl rfl (yln (us:=[.i G.Instance,.i G.Arc,.i G.Transition,.i G.Slack]) rfl ag_44 W cn_44) ?_;have ⟨C,f,hF⟩:=bsome hF;refine Ef rfl (eca rfl gf_22 (W_i f :)) ?_;rintro _ I0 ⟨rfl,P⟩;have ⟨Z,C0⟩:=Et F P;have D:=D.ext P;have ⟨K0,Q,hF⟩:=bsome hF;refine Ye rfl (yio rfl underlying24 cn_28 D Q) ?_;rintro _ ⟨t,G0,rfl,M,N,X⟩;have g:=N;obtain rfl:=C_Check_open N;refine Ef rfl (eff_store_own (c:=C_Check) (us':=[.i C.Instance,.i C.Arc,.i C.Transition,.i C.Slack]) (y':=C) 0 _ rfl rfl rfl D M Q rfl cn_28 rfl g X rfl rfl C_Check_mk (fun k h => absurd h.2 (Nat.not_lt_zero k))) ?_;rintro _ J0 ⟨l,j⟩;have ⟨b,D0⟩:=Eu Z l (by have:=V _ M;omega);refine Ro 9 ?_;intro a hK;exact ⟨E,nr,(wrap .i64 (A + 1)),((B.set (A).toNat C)),hK.sub rfl,b,(by omega),j,hF⟩
      · intro hF;refine Rc 12 ?_;cases szt hF;exact Ne rfl rfl ⟨_,rfl,_,rfl,ownR.base D (by omega),F⟩
def F_d (n:Nat) (a0:S_Check) (a1:S_Check):Option Bool:=(bif (a0.Instance != a1.Instance) then (some false) else (bif (a0.Arc != a1.Arc) then (some false) else (bif (a0.Transition != a1.Transition) then (some false) else (bif (a0.Slack != a1.Slack) then (some false) else (some true)))))
theorem W_d {A:S_Check} {B:S_Check} {r:Bool} (hF:F_d n A B = some r) :
    Calls prog 23 [.agg #[.i A.Instance,.i A.Arc,.i A.Transition,.i A.Slack],.agg #[.i B.Instance,.i B.Arc,.i B.Transition,.i B.Slack]].toArray w (Ret fun u F => u = .bool r∧Ext w F):=by
  refine calls_ofD func23 rfl ntmps23 ?_;have J:=Ext.refl w;unfold F_d at hF;refine Rc 2 (Ef rfl (eff_box rfl rfl) ?_);rintro _ F ⟨H,rfl,P,Q,L,C⟩;have C:Box F H [.i A.Instance,.i A.Arc,.i A.Transition,.i A.Slack] 28:=C;have ⟨K,S⟩:=Et J L;refine Ef rfl (eff_box rfl rfl) ?_;rintro _ M ⟨I,rfl,N,O,G,D⟩;have D:Box M I [.i B.Instance,.i B.Arc,.i B.Transition,.i B.Slack] 28:=D;have ⟨E,R⟩:=Et K G;have C:=C.ext G;refine Ro 6 (Yl rfl (yfa rfl fo_28_0) (Yl rfl (ylb rfl ag_2 C rfl) (Yl rfl (yfa rfl fo_28_0) (Yl rfl (ylb rfl ag_2 D rfl) (Ro 3 (Wc rfl hF ?_ ?_))))))
  · intro hF;refine Rc 7 ?_;cases szt hF;exact Ne rfl rfl ⟨_,rfl,rfl,E⟩
  · intro hF;refine Rc 5 (Yl rfl (yfa rfl fo_28_1) (Yl rfl (ylb rfl ag_2 C rfl) (Yl rfl (yfa rfl fo_28_1) (Yl rfl (ylb rfl ag_2 D rfl) (Ro 3 (Wc rfl hF ?_ ?_))))))
    · intro hF;refine Rc 7 ?_;cases szt hF;exact Ne rfl rfl ⟨_,rfl,rfl,E⟩
    · intro hF;refine Rc 5 (Yl rfl (yfa rfl fo_28_2) (Yl rfl (ylb rfl ag_2 C rfl) (Yl rfl (yfa rfl fo_28_2) (Yl rfl (ylb rfl ag_2 D rfl) (Ro 3 (Wc rfl hF ?_ ?_))))))
      · intro hF;refine Rc 7 ?_;cases szt hF;exact Ne rfl rfl ⟨_,rfl,rfl,E⟩
      · intro hF;refine Rc 5 (Yl rfl (yfa rfl fo_28_3) (Yl rfl (ylb rfl ag_2 C rfl) (Yl rfl (yfa rfl fo_28_3) (Yl rfl (ylb rfl ag_2 D rfl) (Ro 3 (Wc rfl hF ?_ ?_))))))
        · intro hF;refine Rc 7 ?_;cases szt hF;exact Ne rfl rfl ⟨_,rfl,rfl,E⟩
        · intro hF;refine Rc 8 ?_;cases szt hF;exact Ne rfl rfl ⟨_,rfl,rfl,E⟩
def F_7_L1 (n:Nat) (a0:List S_Check) (a1:List S_Check) (k0:Int→Option Bool):Nat→Int→Option Bool
  | 0, _=>none
  | m + 1, i7=>(bif decide (i7 < (a0.length:Int)) then ((getI a0 i7).bind fun x8=>((getI a1 i7).bind fun x17=>((F_d n x8 x17).bind fun r26=>(bif (!r26) then (some false) else (F_7_L1 n a0 a1 k0 m (wrap .i64 (i7 + 1))))))) else (k0 i7))
def F_7 (n:Nat) (a0:List S_Check) (a1:List S_Check):Option Bool:=(bif (((a0.length:Int)) != ((a1.length:Int))) then (some false) else (F_7_L1 n a0 a1 (fun i7=>(some true)) n 0))
theorem W_7 {G:List S_Check} {I:List S_Check} {r:Bool} {K L:Value} (hF:F_7 n G I = some r) (hH:H ≤ w.heap.size) (J:slRep C_Check w (Iv 0 H) G K) (M:slRep C_Check w (Iv 0 H) I L) :
    Calls prog 12 [K,L].toArray w (Ret fun u W => u = .bool r∧Ext w W):=by
  refine calls_ofD func12 rfl ntmps12 ?_;have D:=Ext.refl w;unfold F_7 at hF;refine Rc 9 (Yl rfl (yle rfl underlying24 (J.oh hH D)) (Ro 1 (Yl rfl (yle rfl underlying24 (M.oh hH D)) (Ro 3 (Wc rfl hF ?_ ?_)))))
  · intro hF;refine Rc 7 ?_;cases szt hF;exact Ne rfl rfl ⟨_,rfl,rfl,D⟩
  · intro hF;refine Rc 9 ?_;refine WC.loopD (fun C a wl => ∃ (B:Int),Kn 27 [(0,K),(1,L),(5,.i B)] a∧Ext w wl∧w.heap.size ≤ wl.heap.size∧F_7_L1 n G I (fun B => (some true)) C B = some r) n ?_ ?_
    · intro a hK;exact ⟨0,hK.sub rfl,D,Nat.le_refl _,hF⟩
    · rintro C a k ⟨B,hK,A,d,hF⟩;revert a;change WC _ _ _ _ _ _
      cases C with
      | zero => exact nos hF
      | succ C =>
        rw [F_7_L1.eq_2] at hF;refine Rc 5 (Yl rfl (yle rfl underlying24 (J.oh hH A)) (Ro 3 (Wc rfl hF ?_ ?_)))
        · intro hF;refine Rc 5 (WC.quiet Try.hm (by kernel_rfl) (Qr 2 ?_));have ⟨E,U,hF⟩:=bsome hF;refine Qe rfl (yix rfl underlying24 cn_28 (J.oh hH A) U) ?_;rintro _ ⟨X,e,h,rfl,Z,Q,O⟩;obtain rfl:=C_Check_open Q;refine Qy rfl (yln (us:=[.i E.Instance,.i E.Arc,.i E.Transition,.i E.Slack]) rfl ag_28 O cn_28) (Qr 2 ?_);have ⟨F,V,hF⟩:=bsome hF;refine Qe rfl (yix rfl underlying24 cn_28 (M.oh hH A) V) ?_;rintro _ ⟨Y,f,i,rfl,b,R,P⟩;obtain rfl:=C_Check_open R;refine Qy rfl (yln (us:=[.i F.Instance,.i F.Arc,.i F.Transition,.i F.Slack]) rfl ag_28 P cn_28) ?_;have ⟨g,S,hF⟩:=bsome hF;refine Ql rfl (qca rfl gf_23 fun w' hw' => (W_d S :)) ?_;refine Qr 1 ?_;refine QL.done fun j T => ?_;have ⟨N,c⟩:=Et A T;refine Re 1 (Wc rfl hF ?_ ?_)
          · intro hF;refine Rc 11 ?_;cases szt hF;exact Ne rfl rfl ⟨_,rfl,rfl,N⟩
          · intro hF;refine Rc 9 ?_;intro a hK;exact ⟨C,nr,(wrap .i64 (B + 1)),hK.sub rfl,N,(by omega),hF⟩
        · intro hF;refine Rc 11 ?_;cases szt hF;exact Ne rfl rfl ⟨_,rfl,rfl,A⟩
def F_8_L1 (k0:Int→Int→(List S_Check)→Option (Int × (List S_Check))):Nat→Int→Int→(List S_Check)→Option (Int × (List S_Check))
  | 0, _, _, _=>none
  | m + 1, i9, i10, l11=>(bif decide (i10 < (l11.length:Int)) then ((getI l11 i10).bind fun x13=>((getI ((l11.set (i10).toNat ((S_Check.mk i9 x13.Arc x13.Transition x13.Slack)))) i10).bind fun x25=>((getI ((((l11.set (i10).toNat ((S_Check.mk i9 x13.Arc x13.Transition x13.Slack)))).set (i10).toNat ((S_Check.mk x25.Instance (wrap .i64 (i9 + 1)) x25.Transition x25.Slack)))) i10).bind fun x37=>((getI ((((((l11.set (i10).toNat ((S_Check.mk i9 x13.Arc x13.Transition x13.Slack)))).set (i10).toNat ((S_Check.mk x25.Instance (wrap .i64 (i9 + 1)) x25.Transition x25.Slack)))).set (i10).toNat ((S_Check.mk x37.Instance x37.Arc (wrap .i64 ((wrap .i64 (i9 + 1)) + 1)) x37.Slack)))) i10).bind fun x49=>(F_8_L1 k0 m (wrap .i64 ((wrap .i64 ((wrap .i64 ((wrap .i64 (i9 + 1)) + 1)) + 1)) + 1)) (wrap .i64 (i10 + 1)) ((((((((l11.set (i10).toNat ((S_Check.mk i9 x13.Arc x13.Transition x13.Slack)))).set (i10).toNat ((S_Check.mk x25.Instance (wrap .i64 (i9 + 1)) x25.Transition x25.Slack)))).set (i10).toNat ((S_Check.mk x37.Instance x37.Arc (wrap .i64 ((wrap .i64 (i9 + 1)) + 1)) x37.Slack)))).set (i10).toNat ((S_Check.mk x49.Instance x49.Arc x49.Transition (wrap .i64 ((wrap .i64 ((wrap .i64 (i9 + 1)) + 1)) + 1))))))))))) else (k0 i9 i10 l11))
def F_8 (n:Nat) (a0:List S_Check) (a1:Int):Option (Int × (List S_Check)):=(F_8_L1 (fun i9 i10 l11=>(some (i9, l11))) n a1 0 a0)
theorem W_8 {K:List S_Check} {L:Int} {r:Int × (List S_Check)} {G:Value} {B3:Nat} (hF:F_8 n K L = some r) (M:ownR C_Check w B3 (Iv 0 0) 28 K G) :
    Calls prog 13 [G,.i L].toArray w (Ret fun u f => u = .i r.1∧ownR C_Check f B3 (Iv 0 0) 28 r.2 G∧But (pO G) w f):=by
  refine calls_ofD func13 rfl ntmps13 ?_;have m:But (pO G) w w:=But.refl _ w;have I0:=ownR.blk M;unfold F_8 at hF;refine Rc 12 ?_;refine WC.loopD (fun I a wl => ∃ (A:Int) (B:Int) (H:List S_Check),Kn 41 [(0,G),(1,.i A),(5,.i B)] a∧But (pO G) w wl∧w.heap.size ≤ wl.heap.size∧ownR C_Check wl (B3) (Iv 0 0) 28 H G∧F_8_L1 (fun A B H => (some (A,H))) I A B H = some r) n ?_ ?_
  · intro a hK;exact ⟨L,0,K,hK.sub rfl,m,Nat.le_refl _,M,hF⟩
  · rintro I a W0 ⟨A,B,H,hK,N,J0,J,hF⟩;revert a;change WC _ _ _ _ _ _
    cases I with
    | zero => exact nos hF
    | succ I =>
      rw [F_8_L1.eq_2] at hF;refine Rc 5 (Yl rfl (ylo rfl underlying24 J) (Ro 3 (Wc rfl hF ?_ ?_)))
      · intro hF;refine Rc 9 ?_;have ⟨C,Z,hF⟩:=bsome hF;refine Ye rfl (yio rfl underlying24 cn_28 J Z) ?_;rintro _ ⟨E0,O0,rfl,O,S,g⟩;have t:=S;obtain rfl:=C_Check_open S;refine Yl rfl (yfa rfl fo_28_0) ?_;refine Ef rfl (eff_store_own (c:=C_Check) (us':=[.i A,.i C.Arc,.i C.Transition,.i C.Slack]) (y':=(S_Check.mk A C.Arc C.Transition C.Slack)) 0 _ rfl rfl rfl J O Z rfl cn_2 rfl t g rfl rfl C_Check_mk (fun k h => absurd h.2 (Nat.not_lt_zero k))) ?_;rintro _ S0 ⟨A0,W⟩;have ⟨o,K0⟩:=Ebu N A0 (Or.inl O);refine Ro 14 ?_;have ⟨D,b,hF⟩:=bsome hF;refine Ye rfl (yio rfl underlying24 cn_28 W b) ?_;rintro _ ⟨F0,P0,rfl,P,T,i⟩;have v:=T;obtain rfl:=C_Check_open T;refine Yl rfl (yfa rfl fo_28_1) ?_;refine Ef rfl (eff_store_own (c:=C_Check) (us':=[.i D.Instance,.i (wrap .i64 (A + 1)),.i D.Transition,.i D.Slack]) (y':=(S_Check.mk D.Instance (wrap .i64 (A + 1)) D.Transition D.Slack)) 1 _ rfl rfl rfl W P b rfl cn_2 rfl v i rfl rfl C_Check_mk (fun k h => absurd h.2 (Nat.not_lt_zero k))) ?_;rintro _ T0 ⟨B0,X⟩;have ⟨p,L0⟩:=Ebu o B0 (Or.inl P);refine Ro 14 ?_;have ⟨E,d,hF⟩:=bsome hF;refine Ye rfl (yio rfl underlying24 cn_28 X d) ?_;rintro _ ⟨G0,Q0,rfl,Q,U,j⟩;have x:=U;obtain rfl:=C_Check_open U;refine Yl rfl (yfa rfl fo_28_2) ?_;refine Ef rfl (eff_store_own (c:=C_Check) (us':=[.i E.Instance,.i E.Arc,.i (wrap .i64 ((wrap .i64 (A + 1)) + 1)),.i E.Slack]) (y':=(S_Check.mk E.Instance E.Arc (wrap .i64 ((wrap .i64 (A + 1)) + 1)) E.Slack)) 2 _ rfl rfl rfl X Q d rfl cn_2 rfl x j rfl rfl C_Check_mk (fun k h => absurd h.2 (Nat.not_lt_zero k))) ?_;rintro _ U0 ⟨C0,Y⟩;have ⟨q,M0⟩:=Ebu p C0 (Or.inl Q);refine Ro 14 ?_;have ⟨F,e,hF⟩:=bsome hF;refine Ye rfl (yio rfl underlying24 cn_28 Y e) ?_;rintro _ ⟨H0,R0,rfl,R,V,l⟩;have y:=V;obtain rfl:=C_Check_open V;refine Yl rfl (yfa rfl fo_28_3) ?_;refine Ef rfl (eff_store_own (c:=C_Check) (us':=[.i F.Instance,.i F.Arc,.i F.Transition,.i (wrap .i64 ((wrap .i64 ((wrap .i64 (A + 1)) + 1)) + 1))]) (y':=(S_Check.mk F.Instance F.Arc F.Transition (wrap .i64 ((wrap .i64 ((wrap .i64 (A + 1)) + 1)) + 1)))) 3 _ rfl rfl rfl Y R e rfl cn_2 rfl y l rfl rfl C_Check_mk (fun k h => absurd h.2 (Nat.not_lt_zero k))) ?_;rintro _ V0 ⟨D0,z⟩;have ⟨s,N0⟩:=Ebu q D0 (Or.inl R);refine Ro 15 ?_;intro a hK;exact ⟨I,nr,(wrap .i64 ((wrap .i64 ((wrap .i64 ((wrap .i64 (A + 1)) + 1)) + 1)) + 1)),(wrap .i64 (B + 1)),((((((((H.set (B).toNat ((S_Check.mk A C.Arc C.Transition C.Slack)))).set (B).toNat ((S_Check.mk D.Instance (wrap .i64 (A + 1)) D.Transition D.Slack)))).set (B).toNat ((S_Check.mk E.Instance E.Arc (wrap .i64 ((wrap .i64 (A + 1)) + 1)) E.Slack)))).set (B).toNat ((S_Check.mk F.Instance F.Arc F.Transition (wrap .i64 ((wrap .i64 ((wrap .i64 (A + 1)) + 1)) + 1)))))),hK.sub rfl,s,(by omega),z,hF⟩
      · intro hF;refine Rc 12 ?_;cases szt hF;exact Ne rfl rfl ⟨_,rfl,rfl,J,N⟩
def F_9_L1 (a0:List S_Check) (k0:Int→Int→Option Int):Nat→Int→Int→Option Int
  | 0, _, _=>none
  | m + 1, i5, i6=>(bif decide (i6 < (a0.length:Int)) then ((getI a0 i6).bind fun x7=>(bif (x7.Instance != i5) then (some (-1)) else ((getI a0 i6).bind fun x16=>(bif (x16.Arc != (wrap .i64 (i5 + 1))) then (some (-1)) else ((getI a0 i6).bind fun x25=>(bif (x25.Transition != (wrap .i64 ((wrap .i64 (i5 + 1)) + 1))) then (some (-1)) else ((getI a0 i6).bind fun x34=>(bif (x34.Slack != (wrap .i64 ((wrap .i64 ((wrap .i64 (i5 + 1)) + 1)) + 1))) then (some (-1)) else (F_9_L1 a0 k0 m (wrap .i64 ((wrap .i64 ((wrap .i64 ((wrap .i64 (i5 + 1)) + 1)) + 1)) + 1)) (wrap .i64 (i6 + 1))))))))))) else (k0 i5 i6))
def F_9 (n:Nat) (a0:List S_Check) (a1:Int):Option Int:=(F_9_L1 a0 (fun i5 i6=>(some i5)) n a1 0)
theorem W_9 {F:List S_Check} {G:Int} {r:Int} {I:Value} (hF:F_9 n F G = some r) (hH:H ≤ w.heap.size) (C:slRep C_Check w (Iv 0 H) F I) :
    Calls prog 14 [I,.i G].toArray w (Ret fun u W => u = .i r∧Ext w W):=by
  refine calls_ofD func14 rfl ntmps14 ?_;have N:=Ext.refl w;unfold F_9 at hF;refine Rc 12 ?_;refine WC.loopD (fun E a wl => ∃ (B:Int) (D:Int),Kn 49 [(0,I),(1,.i B),(5,.i D)] a∧Ext w wl∧w.heap.size ≤ wl.heap.size∧F_9_L1 F (fun B D => (some B)) E B D = some r) n ?_ ?_
  · intro a hK;exact ⟨G,0,hK.sub rfl,N,Nat.le_refl _,hF⟩
  · rintro E a q ⟨B,D,hK,A,g,hF⟩;revert a;change WC _ _ _ _ _ _
    cases E with
    | zero => exact nos hF
    | succ E =>
      rw [F_9_L1.eq_2] at hF;refine Rc 5 (Yl rfl (yle rfl underlying24 (C.oh hH A)) (Ro 3 (Wc rfl hF ?_ ?_)))
      · intro hF;refine Rc 9 ?_;have ⟨x,S,hF⟩:=bsome hF;refine Ye rfl (yix rfl underlying24 cn_28 (C.oh hH A) S) ?_;rintro _ ⟨X,h,l,rfl,c,O,J⟩;obtain rfl:=C_Check_open O;refine Yl rfl (yfa rfl fo_28_0) (Yl rfl (ylc 0 rfl ag_2 J rfl rfl) (Ro 4 (Wc rfl hF ?_ ?_)))
        · intro hF;refine Rc 12 ?_;cases szt hF;exact Ne rfl rfl ⟨_,rfl,rfl,A⟩
        · intro hF;refine Rc 14 ?_;have ⟨s,T,hF⟩:=bsome hF;refine Ye rfl (yix rfl underlying24 cn_28 (C.oh hH A) T) ?_;rintro _ ⟨Y,i,m,rfl,d,P,K⟩;obtain rfl:=C_Check_open P;refine Yl rfl (yfa rfl fo_28_1) (Yl rfl (ylc 1 rfl ag_2 K rfl rfl) (Ro 4 (Wc rfl hF ?_ ?_)))
          · intro hF;refine Rc 12 ?_;cases szt hF;exact Ne rfl rfl ⟨_,rfl,rfl,A⟩
          · intro hF;refine Rc 14 ?_;have ⟨t,U,hF⟩:=bsome hF;refine Ye rfl (yix rfl underlying24 cn_28 (C.oh hH A) U) ?_;rintro _ ⟨Z,j,o,rfl,e,Q,L⟩;obtain rfl:=C_Check_open Q;refine Yl rfl (yfa rfl fo_28_2) (Yl rfl (ylc 2 rfl ag_2 L rfl rfl) (Ro 4 (Wc rfl hF ?_ ?_)))
            · intro hF;refine Rc 12 ?_;cases szt hF;exact Ne rfl rfl ⟨_,rfl,rfl,A⟩
            · intro hF;refine Rc 14 ?_;have ⟨v,V,hF⟩:=bsome hF;refine Ye rfl (yix rfl underlying24 cn_28 (C.oh hH A) V) ?_;rintro _ ⟨b,k,p,rfl,f,R,M⟩;obtain rfl:=C_Check_open R;refine Yl rfl (yfa rfl fo_28_3) (Yl rfl (ylc 3 rfl ag_2 M rfl rfl) (Ro 4 (Wc rfl hF ?_ ?_)))
              · intro hF;refine Rc 12 ?_;cases szt hF;exact Ne rfl rfl ⟨_,rfl,rfl,A⟩
              · intro hF;refine Rc 15 ?_;intro a hK;exact ⟨E,nr,(wrap .i64 ((wrap .i64 ((wrap .i64 ((wrap .i64 (B + 1)) + 1)) + 1)) + 1)),(wrap .i64 (D + 1)),hK.sub rfl,A,(by omega),hF⟩
      · intro hF;refine Rc 12 ?_;cases szt hF;exact Ne rfl rfl ⟨_,rfl,rfl,A⟩

theorem Z_CheckS {n:Nat} {a:List S_Check} {left:Int} (hR:(fun xs=>xs.length ≤ 9223372036854775807 ∧ ∀ x ∈ xs,R_Check x) a) (h0:0 ≤ left) (h1:left ≤ 1048576) (hn:1048577 ≤ n):∃ r,F_h n a left = some r ∧ r ≤ left ∧ (0 ≤ r → (fun xs=>xs.length ≤ 1048576 ∧ ∀ x ∈ xs,SM_Check x) a):=by
 have hl:=hR.1
 rw [F_h,wrap64 (by omega) (by omega)]
 by_cases h:left - (a.length:Int) < 0
 ·rw [decide_eq_true h]; exact ⟨-1,rfl,by omega,fun h=>by omega⟩
 ·rw [decide_eq_false h]; exact ⟨_,rfl,by omega,fun _=>⟨by omega,fun x _=>⟨trivial,trivial,trivial,trivial⟩⟩⟩
theorem T_Check {n:Nat} {a:S_Check} (h:SM_Check a) (hn:1048577 ≤ n):F_i n a = some a:=by
 rfl
theorem TL_CheckS {n:Nat} {a:List S_Check} {k:Int → List S_Check → Option (List S_Check)}:∀ (m:Nat) (i:Int) (l:List S_Check),F_6_L1 n a k m i l = cpL a (F_i n) k m i l
 | 0,_,_=>rfl
 | m + 1,i,l=>by simp only [F_6_L1.eq_2,cpL_s,Option.bind_some,TL_CheckS (n:=n) (a:=a) (k:=k) m]
theorem T_CheckS {n:Nat} {a:List S_Check} (h:(fun xs=>xs.length ≤ 1048576 ∧ ∀ x ∈ xs,SM_Check x) a) (hn:1048577 ≤ n):F_6 n a = some a:=by
 rw [F_6,mkN_ok h.1 (by omega),Option.bind_some,TL_CheckS (n:=n)]
 exact cpL_id (fun x hx=>T_Check (h.2 x hx) hn) h.1 hn
theorem E_Check {n:Nat} {a:S_Check} (h:SM_Check a) (hn:1048577 ≤ n):F_d n a a = some true:=by
 simp [F_d]
theorem EL_CheckS {n:Nat} {a b:List S_Check} {k:Int → Option Bool}:∀ (m:Nat) (i:Int),F_7_L1 n a b k m i = eqL a b (F_d n) (some false) k m i
 | 0,_=>rfl
 | m + 1,i=>by simp only [F_7_L1.eq_2,eqL_s,Option.bind_some,bne,EL_CheckS (n:=n) (a:=a) (b:=b) (k:=k) m]
theorem E_CheckS {n:Nat} {a:List S_Check} (h:(fun xs=>xs.length ≤ 1048576 ∧ ∀ x ∈ xs,SM_Check x) a) (hn:1048577 ≤ n):F_7 n a a = some true:=by
 rw [F_7,EL_CheckS (n:=n)]
 have:=eqL_same (f:=F_d n) (no:=some false) (k:=fun (i:Int)=>some true) (fun x hx=>E_Check (h.2 x hx) hn) h.1 n 0 (by omega) (by omega)
 simpa using this
theorem M_CheckS {n:Nat} {a:List S_Check} {k:Int} (h:a.length ≤ 1048576) (h0:0 ≤ k) (hk:k ≤ 1152921504606846976) (hn:1048577 ≤ n):∃ r,F_8 n a k = some r ∧ k ≤ r.1 ∧ r.1 ≤ k + 67108864 ∧ F_9 n r.2 k = some r.1:=by
 have ⟨b,h1,h2,h3⟩:=markL (LM:=fun m k i l=>F_8_L1 (fun i8 i9 l10=>(some (i8,l10))) m k i l) 4 (fun k x=>(S_Check.mk (k) (k + 1) (k + 1 + 1) (k + 1 + 1 + 1))) (by omega) (fun m k i l hi hi2 k0 k1=>by
  rw [show k + ((4:Nat):Int) = k + 1 + 1 + 1 + 1 by omega]
  simp only [F_8_L1.eq_2,dltE hi,cond_true,getI_elE hi,getI_setE hi,Option.bind_some,Int.toNat_natCast,List.set_set,wSE hi2,wrap64 (x:=k + 1) (by omega) (by omega),wrap64 (x:=k + 1 + 1) (by omega) (by omega),wrap64 (x:=k + 1 + 1 + 1) (by omega) (by omega),wrap64 (x:=k + 1 + 1 + 1 + 1) (by omega) (by omega)]) (fun m k l=>by simp only [F_8_L1.eq_2,dnlE,cond_false]) h h0 hk n 0 a (by omega) (by omega) rfl (fun j _ hj=>by omega)
 refine ⟨(k + ((4:Nat):Int) * a.length,b),by rw [F_8]; simpa using h1,by dsimp only; omega,by dsimp only; omega,?_⟩
 have:=heldL (LH:=fun m k i=>F_9_L1 b (fun i5 i6=>(some i5)) m k i) 4 (fun k (x:S_Check)=>(S_Check.mk (k) (k + 1) (k + 1 + 1) (k + 1 + 1 + 1))) (by omega) (fun m k i hi x hx hi2 k0 k1=>by
  rw [show k + ((4:Nat):Int) = k + 1 + 1 + 1 + 1 by omega]
  simp only [F_9_L1.eq_2,dltE hi,cond_true,getI_elE hi,hx,Option.bind_some,bne_self_eq_false,cond_false,wSE hi2,wrap64 (x:=k + 1) (by omega) (by omega),wrap64 (x:=k + 1 + 1) (by omega) (by omega),wrap64 (x:=k + 1 + 1 + 1) (by omega) (by omega),wrap64 (x:=k + 1 + 1 + 1 + 1) (by omega) (by omega)]) (fun m k=>by simp only [F_9_L1.eq_2,dnlE,cond_false]) (by omega) h0 hk h3 n 0 (by omega) (by omega)
 rw [h2] at this
 rw [F_9]; simpa using this
theorem Rd_2:Rd prog 2 (cInt .i64) (inK .i64):=Rd.int underlying2
theorem Rd_44:Rd prog 44 C_Check R_Check:=Rd.map (Rd.struct (fs:=[_,_,_,_]) underlying44 (by kernel_rfl) (RdF.cons Rd_2 rfl (by kernel_rfl) (RdF.cons Rd_2 rfl (by kernel_rfl) (RdF.cons Rd_2 rfl (by kernel_rfl) (RdF.one Rd_2 rfl (by kernel_rfl)))))) (fun (x:S_Check)=>(x.Instance,x.Arc,x.Transition,x.Slack)) (fun p=>(⟨p.1,p.2.1,p.2.2.1,p.2.2.2⟩:S_Check)) (fun _=>rfl)
theorem Rd_30:Rd prog 30 (cSl C_Check) (fun xs=>xs.length ≤ 9223372036854775807 ∧ ∀ x ∈ xs,R_Check x):=Rd.slice underlying30 (by kernel_rfl) rfl Rd_44
end Go.Proofs.Ytjhainjcamfohaa
