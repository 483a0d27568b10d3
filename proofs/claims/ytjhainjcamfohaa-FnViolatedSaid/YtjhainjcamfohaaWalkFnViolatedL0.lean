/- The walks: every function that FnViolated reaches computes the plain function that is typed beside it; no condition. -/
import Derived.Test.YtjhainjcamfohaaWalkFnViolatedB0
set_option linter.all false
set_option maxRecDepth 20000
set_option maxHeartbeats 40000000
namespace Go.Proofs.Ytjhainjcamfohaa
open Go Go.RowKit Go.Eng Go.Proofs.Try
open Go.IntKind (wrap)
variable {n H:Nat} {w:World}
def F_k (n:Nat) (a0:List Int):Option Bool:=(some (decide ((a0.length:Int) > 4096)))
theorem W_k {A:List Int} {r:Bool} {C:Value} (hF:F_k n A = some r) (hH:H ≤ w.heap.size) (D:slRep (cInt .u8) w (Iv 0 H) A C) :
    Calls prog 5 [C].toArray w (Ret fun u E => u = .bool r∧Ext w E):=by
  refine calls_ofD func5 rfl ntmps5 ?_;have B:=Ext.refl w;unfold F_k at hF;refine Rc 8 (Yl rfl (yle rfl underlying22 (D.oh hH B)) (Ro 5 ?_));cases szt hF;exact Ne rfl rfl ⟨_,rfl,rfl,B⟩

theorem Rd_5:Rd prog 5 (cInt .u8) (inK .u8):=Rd.int underlying5
theorem Rd_22:Rd prog 22 (cSl (cInt .u8)) (fun xs=>xs.length ≤ 9223372036854775807 ∧ ∀ x ∈ xs,(inK .u8) x):=Rd.slice underlying22 (by kernel_rfl) rfl Rd_5
end Go.Proofs.Ytjhainjcamfohaa
