/- The walks: every function that FnGateList reaches computes the plain function that is typed beside it; no condition. -/
import Derived.Test.YtbcnjcjcdknhhaaGreatDoorWalkFnGateListB0
set_option linter.all false
set_option maxRecDepth 20000
set_option maxHeartbeats 40000000
namespace Go.Proofs.YtbcnjcjcdknhhaaGreatDoor
open Go Go.RowKit Go.Eng Go.Proofs.Tryz
open Go.IntKind (wrap)
variable {n H:Nat} {w:World}
def Tc(n:Nat)(a0:List Int):Option Bool:=(some (decide ((a0.length:Int)>4096)))
theorem ZI{A:List Int}{r:Bool}{C:Value}(hF:Tc n A=some r)(hH:H<=w.heap.size)(D:AC (AJ .u8) w (Iv 0 H) A C):
 Calls prog 5 [C].toArray w (Bg fun u E=>u= .bool r∧AH w E):=by
 refine AI func5 rfl ntmps5 ?_;have B:=AH.refl w;unfold Tc at hF;refine Rc 8 (Yl rfl (Br rfl underlying22 (D.oh hH B)) (Ro 5 ?_));cases An hF;exact Ne rfl rfl ⟨_,rfl,rfl,B⟩
def Gy(a0:List Int)(a1:Int)(k0:Int->Option Bool):Nat->Int->Option Bool
 |0,_=>none
 |m+1,i5=>(bif decide (i5<(a0.length:Int))then((AO a0 i5).bind fun x6=>(bif (x6==a1)then(some true)else(Gy a0 a1 k0 m (wrap .i64 (i5+1)))))else(k0 i5))
def ME(n:Nat)(a0:List Int)(a1:Int):Option Bool:=(Gy a0 a1 (fun i5=>(some false)) n 0)
theorem Rw{E:List Int}{D:Int}{r:Bool}{F:Value}(hF:ME n E D=some r)(hH:H<=w.heap.size)(G:AC (AJ .i64) w (Iv 0 H) E F):
 Calls prog 11 [F,.i D].toArray w (Bg fun u L=>u= .bool r∧AH w L):=by
 refine AI func11 rfl ntmps11 ?_;have J:=AH.refl w;unfold ME at hF;refine Rc 12 ?_;refine WC.loopD (fun C a wl=>∃(B:Int),Kn 18 [(0,F),(1,.i D),(5,.i B)] a∧AH w wl∧w.heap.size<=wl.heap.size∧Gy E D (fun B=>(some false)) C B=some r) n ?_ ?_
 ·intro a hK;exact⟨0,hK.sub rfl,J,Nat.le_refl _,hF⟩
 ·rintro C a Q ⟨B,hK,A,O,hF⟩;revert a;change WC _ _ _ _ _ _
  cases C with
  |zero=>exact CH hF
  |succ C=>
   rw [Gy.eq_2]at hF;refine Rc 5 (Yl rfl (Br rfl underlying35 (G.oh hH A)) (Ro 3 (Wc rfl hF ?_ ?_)))
   ·intro hF;refine Rc 8 ?_;have⟨R,K,hF⟩:=AD hF;refine Ye rfl (Bl rfl underlying35 BF (G.oh hH A) K) ?_;rintro _ ⟨M,P,_,rfl,N,rfl,I⟩;refine Yl rfl (BX 0 rfl Ac I rfl rfl) (Ro 4 (Wc rfl hF ?_ ?_))
    ·intro hF;refine Rc 11 ?_;cases An hF;exact Ne rfl rfl ⟨_,rfl,rfl,A⟩
    ·intro hF;refine Rc 9 ?_;intro a hK;exact⟨C,nr,(wrap .i64 (B+1)),hK.sub rfl,A,(by omega),hF⟩
   ·intro hF;refine Rc 11 ?_;cases An hF;exact Ne rfl rfl ⟨_,rfl,rfl,A⟩

theorem ZB:Rd prog 5 (AJ .u8) (Vr .u8):=Rd.int underlying5
theorem dB:Rd prog 22 (Dw (AJ .u8)) (fun xs=>xs.length<=9223372036854775807∧∀x∈xs,(Vr .u8) x):=Rd.slice underlying22 (by kernel_rfl) rfl ZB
end Go.Proofs.YtbcnjcjcdknhhaaGreatDoor
