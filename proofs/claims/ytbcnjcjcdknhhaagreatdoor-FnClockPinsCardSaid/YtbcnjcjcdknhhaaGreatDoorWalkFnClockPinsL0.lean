/- The walks: every function that FnClockPins reaches computes the plain function that is typed beside it; no condition. -/
import Derived.Test.YtbcnjcjcdknhhaaGreatDoorWalkFnClockPinsB0
set_option linter.all false
set_option maxRecDepth 20000
set_option maxHeartbeats 40000000
namespace Go.Proofs.YtbcnjcjcdknhhaaGreatDoor
open Go Go.RowKit Go.Eng Go.Proofs.Tryz
open Go.IntKind (wrap)
variable {n H:Nat} {w:World}
def Sb(n:Nat)(a0:List Int):Option Bool:=(some (decide ((a0.length:Int)>4096)))
theorem YY{A:List Int}{r:Bool}{C:Value}(hF:Sb n A=some r)(hH:H<=w.heap.size)(D:AD (AI .u8) w (Iv 0 H) A C):
 Calls prog 5 [C].toArray w (Bj fun u E=>u= .bool r∧AJ w E):=by
 refine AH func5 rfl ntmps5 ?_;have B:=AJ.refl w;unfold Sb at hF;refine Rc 8 (Yl rfl (Bo rfl underlying22 (D.oh hH B)) (Ro 5 ?_));cases Ap hF;exact Ne rfl rfl ⟨_,rfl,rfl,B⟩
def GO(a0:List Int)(a1:List Int)(k0:Int->Option Bool):Nat->Int->Option Bool
 |0,_=>none
 |m+1,i7=>(bif decide (i7<(a0.length:Int))then((AM a0 i7).bind fun x8=>((AM a1 i7).bind fun x17=>(bif (x8 !=x17)then(some false)else(GO a0 a1 k0 m (wrap .i64 (i7+1))))))else(k0 i7))
def RD(n:Nat)(a0:List Int)(a1:List Int):Option Bool:=(bif (((a0.length:Int)) !=((a1.length:Int)))then(some false)else(GO a0 a1 (fun i7=>(some true)) n 0))
theorem Yq{E:List Int}{F:List Int}{r:Bool}{I J:Value}(hF:RD n E F=some r)(hH:H<=w.heap.size)(G:AD (AI .i64) w (Iv 0 H) E I)(K:AD (AI .i64) w (Iv 0 H) F J):
 Calls prog 9 [I,J].toArray w (Bj fun u R=>u= .bool r∧AJ w R):=by
 refine AH func9 rfl ntmps9 ?_;have D:=AJ.refl w;unfold RD at hF;refine Rc 9 (Yl rfl (Bo rfl underlying35 (G.oh hH D)) (Ro 1 (Yl rfl (Bo rfl underlying35 (K.oh hH D)) (Ro 3 (Wc rfl hF ?_ ?_)))))
 ·intro hF;refine Rc 7 ?_;cases Ap hF;exact Ne rfl rfl ⟨_,rfl,rfl,D⟩
 ·intro hF;refine Rc 9 ?_;refine WC.loopD (fun C a wl=>∃(B:Int),Kn 26 [(0,I),(1,J),(5,.i B)] a∧AJ w wl∧w.heap.size<=wl.heap.size∧GO E F (fun B=>(some true)) C B=some r) n ?_ ?_
  ·intro a hK;exact⟨0,hK.sub rfl,D,Nat.le_refl _,hF⟩
  ·rintro C a c ⟨B,hK,A,X,hF⟩;revert a;change WC _ _ _ _ _ _
   cases C with
   |zero=>exact CE hF
   |succ C=>
    rw [GO.eq_2]at hF;refine Rc 5 (Yl rfl (Bo rfl underlying35 (G.oh hH A)) (Ro 3 (Wc rfl hF ?_ ?_)))
    ·intro hF;refine Rc 5 (WC.quiet Tryz.hm (by kernel_rfl) (Qr 2 ?_));have⟨d,P,hF⟩:=AC hF;refine Qe rfl (Bh rfl underlying35 BA (G.oh hH A) P) ?_;rintro _ ⟨S,Y,_,rfl,U,rfl,M⟩;refine Qy rfl (BU 0 rfl Aa M rfl rfl) (Qr 2 ?_);have⟨e,Q,hF⟩:=AC hF;refine Qe rfl (Bh rfl underlying35 BA (K.oh hH A) Q) ?_;rintro _ ⟨T,Z,_,rfl,V,rfl,N⟩;refine Qy rfl (BU 0 rfl Aa N rfl rfl) (Qr 1 ?_);refine QL.done fun b O=>?_;have⟨L,W⟩:=Et A O;refine Re 1 (Wc rfl hF ?_ ?_)
     ·intro hF;refine Rc 11 ?_;cases Ap hF;exact Ne rfl rfl ⟨_,rfl,rfl,L⟩
     ·intro hF;refine Rc 9 ?_;intro a hK;exact⟨C,nr,(wrap .i64 (B+1)),hK.sub rfl,L,(by omega),hF⟩
    ·intro hF;refine Rc 11 ?_;cases Ap hF;exact Ne rfl rfl ⟨_,rfl,rfl,A⟩
def Ic(a0:List Int)(a1:Int)(k0:Int->Option Bool):Nat->Int->Option Bool
 |0,_=>none
 |m+1,i5=>(bif decide (i5<(a0.length:Int))then((AM a0 i5).bind fun x6=>(bif (x6==a1)then(some true)else(Ic a0 a1 k0 m (wrap .i64 (i5+1)))))else(k0 i5))
def Rm(n:Nat)(a0:List Int)(a1:Int):Option Bool:=(Ic a0 a1 (fun i5=>(some false)) n 0)
theorem Xd{E:List Int}{D:Int}{r:Bool}{F:Value}(hF:Rm n E D=some r)(hH:H<=w.heap.size)(G:AD (AI .i64) w (Iv 0 H) E F):
 Calls prog 11 [F,.i D].toArray w (Bj fun u L=>u= .bool r∧AJ w L):=by
 refine AH func11 rfl ntmps11 ?_;have J:=AJ.refl w;unfold Rm at hF;refine Rc 12 ?_;refine WC.loopD (fun C a wl=>∃(B:Int),Kn 18 [(0,F),(1,.i D),(5,.i B)] a∧AJ w wl∧w.heap.size<=wl.heap.size∧Ic E D (fun B=>(some false)) C B=some r) n ?_ ?_
 ·intro a hK;exact⟨0,hK.sub rfl,J,Nat.le_refl _,hF⟩
 ·rintro C a Q ⟨B,hK,A,O,hF⟩;revert a;change WC _ _ _ _ _ _
  cases C with
  |zero=>exact CE hF
  |succ C=>
   rw [Ic.eq_2]at hF;refine Rc 5 (Yl rfl (Bo rfl underlying35 (G.oh hH A)) (Ro 3 (Wc rfl hF ?_ ?_)))
   ·intro hF;refine Rc 8 ?_;have⟨R,K,hF⟩:=AC hF;refine Ye rfl (Bh rfl underlying35 BA (G.oh hH A) K) ?_;rintro _ ⟨M,P,_,rfl,N,rfl,I⟩;refine Yl rfl (BU 0 rfl Aa I rfl rfl) (Ro 4 (Wc rfl hF ?_ ?_))
    ·intro hF;refine Rc 11 ?_;cases Ap hF;exact Ne rfl rfl ⟨_,rfl,rfl,A⟩
    ·intro hF;refine Rc 9 ?_;intro a hK;exact⟨C,nr,(wrap .i64 (B+1)),hK.sub rfl,A,(by omega),hF⟩
   ·intro hF;refine Rc 11 ?_;cases Ap hF;exact Ne rfl rfl ⟨_,rfl,rfl,A⟩

theorem Yi:Rd prog 5 (AI .u8) (VE .u8):=Rd.int underlying5
theorem aU:Rd prog 22 (EF (AI .u8)) (fun xs=>xs.length<=9223372036854775807∧∀x∈xs,(VE .u8) x):=Rd.slice underlying22 (by kernel_rfl) rfl Yi
end Go.Proofs.YtbcnjcjcdknhhaaGreatDoor
