/- The walks: every function that FnTotalSlack reaches computes the plain function that is typed beside it; no condition. -/
import Derived.Test.YthojemmmflaicabGreatDoorWalkFnTotalSlackB0
set_option linter.all false
set_option maxRecDepth 20000
set_option maxHeartbeats 40000000
namespace Go.Proofs.YthojemmmflaicabGreatDoor
open Go Go.RowKit Go.Eng Go.Proofs.Tryz
open Go.IntKind (wrap)
variable {n H:Nat} {w:World}
def Wp(n:Nat)(a0:List Int):Option Bool:=some (decide ((a0.length:Int)>4096))
theorem mP{a:List Int}{b:Bool}{c:Value}(d:Wp n a=some b)(g:H<=w.heap.size)(f:Ai (AI .u8) w H a c):
 Calls prog 4 [c].toArray w (Ba (.bool b) w):=by
 have e:=AM.refl w;unfold Wp at d;exact AE func4 z ntmps4 (Rc 8 (Yl z (FP z NP (f.oj e)) (Dz d e)))

theorem jZ:Rd prog 5 (AI .u8) (cC .u8):=Rd.int Yg
theorem pL:Rd prog 22 (FU (AI .u8)) (fun xs=>xs.length<=9223372036854775807∧∀x∈xs,(cC .u8) x):=Rd.slice NP (by kernel_rfl) rfl jZ
end Go.Proofs.YthojemmmflaicabGreatDoor
