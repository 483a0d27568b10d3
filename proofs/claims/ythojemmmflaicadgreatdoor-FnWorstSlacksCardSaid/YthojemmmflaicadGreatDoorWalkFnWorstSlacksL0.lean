/- The walks: every function that FnWorstSlacks reaches computes the plain function that is typed beside it; no condition. -/
import Derived.Test.YthojemmmflaicadGreatDoorWalkFnWorstSlacksB0
set_option linter.all false
set_option maxRecDepth 20000
set_option maxHeartbeats 40000000
namespace Go.Proofs.YthojemmmflaicadGreatDoor
open Go Go.RowKit Go.Eng Go.Proofs.Tryz
open Go.IntKind (wrap)
variable {n H:Nat} {w:World}
def Xb(n:Nat)(a0:List Int):Option Bool:=some (decide ((a0.length:Int)>4096))
theorem lX{a:List Int}{b:Bool}{c:Value}(d:Xb n a=some b)(g:H<=w.heap.size)(f:Ag (AH .u8) w H a c):
 Calls prog 4 [c].toArray w (BX (.bool b) w):=by
 have e:=AI.refl w;unfold Xb at d;exact AE func4 z ntmps4 (Rc 8 (Yl z (FQ z NZ (f.oj e)) (Ds d e)))
def JL(a0:List Int)(a1:Int)(k0:Int->Option Bool):Nat->Int->Option Bool
 |0,_=>none
 |m+1,a=>cond (decide (a<(a0.length:Int))) ((AM a0 a).bind fun b=>cond (b==a1) (some true) (JL a0 a1 k0 m (wrap .i64 (a+1)))) (k0 a)
def Vs(n:Nat)(a0:List Int)(a1:Int):Option Bool:=JL a0 a1 (fun a=>some false) n 0
theorem nK{h:List Int}{f:Int}{i:Bool}{j:Value}(a:Vs n h f=some i)(l:H<=w.heap.size)(k:Ag (AH .i64) w H h j):
 Calls prog 14 [j,.i f].toArray w (BX (.bool i) w):=by
 unfold Vs at a;refine AE func14 z ntmps14 (Rc 12 (WC.loopD (fun c g wl=>∃d:Int,Kn 18 [(0,j),(1,.i f),(5,.i d)] g∧AI w wl∧JL h f (fun d=>(some false)) c d=some i) n ?_ ?_))
 ·intro g e;exact⟨0,e.sub z,AI.refl _,a⟩
 ·rintro c g m ⟨d,e,b,a⟩;refine CX e ?_;rcases c with _|c;exact CW a;rw [JL.eq_2]at a;have o:=b.size;refine Rc 5 (Yl z (FQ z AZ (k.oj b)) (Ro 3 (Wf a b ?_)));intro a;refine Rc 8 (Il a (k.oj b) AZ BE AV ?_);rintro p a _;refine Ro 4 (Wt a b ?_);intro a;refine Rc 9 ?_;intro g e;exact⟨c,nr,(wrap .i64 (d+1)),e.sub z,b,a⟩

theorem nY:Rd prog 5 (AH .u8) (dD .u8):=Rd.int Yw
theorem qT:Rd prog 22 (FR (AH .u8)) (fun xs=>xs.length<=9223372036854775807∧∀x∈xs,(dD .u8) x):=Rd.slice NZ (by kernel_rfl) rfl nY
end Go.Proofs.YthojemmmflaicadGreatDoor
