/- The walks: every function that FnSkews reaches computes the plain function that is typed beside it; no condition. -/
import Derived.Test.YtkjldnhpnbhogaaGreatDoorWalkFnSkewsB0
set_option linter.all false
set_option maxRecDepth 20000
set_option maxHeartbeats 40000000
namespace Go.Proofs.YtkjldnhpnbhogaaGreatDoor
open Go Go.RowKit Go.Eng Go.Proofs.Tryz
open Go.IntKind (wrap)
variable {n H:Nat} {w:World}
def WF(n:Nat)(a0:List Int):Option Bool:=some (decide ((a0.length:Int)>4096))
theorem jS{a:List Int}{b:Bool}{c:Value}(d:WF n a=some b)(g:H<=w.heap.size)(f:AE (AG .u8) w (Iv 0 H) a c):
 Calls prog 8 [c].toArray w (Bl (.bool b) w):=by
 have e:=AS.refl w;unfold WF at d;refine AF func8 z ntmps8 (Rc 8 (Yl z (CL z MX (f.oj e)) (Ro 5 ?_)));cases Al d;exact Bf z z e

theorem jU:Rd prog 5 (AG .u8) (Zo .u8):=Rd.int Ww
theorem lU:Rd prog 22 (FQ (AG .u8)) (fun xs=>xs.length<=9223372036854775807∧∀x∈xs,(Zo .u8) x):=Rd.slice MX (by kernel_rfl) rfl jU
end Go.Proofs.YtkjldnhpnbhogaaGreatDoor
