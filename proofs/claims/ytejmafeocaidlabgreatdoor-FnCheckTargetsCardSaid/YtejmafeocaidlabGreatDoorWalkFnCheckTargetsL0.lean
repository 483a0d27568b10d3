/- The walks: every function that FnCheckTargets reaches computes the plain function that is typed beside it; no condition. -/
import Derived.Test.YtejmafeocaidlabGreatDoorWalkFnCheckTargetsB0
set_option linter.all false
set_option maxRecDepth 20000
set_option maxHeartbeats 40000000
namespace Go.Proofs.YtejmafeocaidlabGreatDoor
open Go Go.RowKit Go.Eng Go.Proofs.Tryz
open Go.IntKind (wrap)
variable {n H:Nat} {w:World}
def eR(n:Nat)(a0:List Int):Option Bool:=some (decide ((a0.length:Int)>4096))
theorem yZ{a:List Int}{b:Bool}{c:Value}(d:eR n a=some b)(g:H<=w.heap.size)(f:At (Bo .u8) w H a c):
 Calls prog 4 [c].toArray w (Cf (.bool b) w):=by
 have e:=AU.refl w;unfold eR at d;exact AE func4 z ntmps4 (Rc 8 (Yl z (HK z Qh (f.oj e)) (GQ d e)))

theorem zR:Rd prog 5 (Bo .u8) (oM .u8):=Rd.int iQ
theorem AcN:Rd prog 22 (Hh (Bo .u8)) (fun xs=>xs.length<=9223372036854775807∧∀x∈xs,(oM .u8) x):=Rd.slice Qh (by kernel_rfl) rfl zR
end Go.Proofs.YtejmafeocaidlabGreatDoor
