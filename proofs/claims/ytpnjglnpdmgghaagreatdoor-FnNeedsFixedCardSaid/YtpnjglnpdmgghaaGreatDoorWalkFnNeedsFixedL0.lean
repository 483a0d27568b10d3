/- The walks: every function that FnNeedsFixed reaches computes the plain function that is typed beside it; no condition. -/
import Derived.Test.YtpnjglnpdmgghaaGreatDoorWalkFnNeedsFixedB0
set_option linter.all false
set_option maxRecDepth 20000
set_option maxHeartbeats 40000000
namespace Go.Proofs.YtpnjglnpdmgghaaGreatDoor
open Go Go.RowKit Go.Eng Go.Proofs.Tryz
open Go.IntKind (wrap)
variable {n H:Nat} {w:World}
def kD(n:Nat)(a0:List Int):Option Bool:=some (decide ((a0.length:Int)>4096))
theorem AbM{a:List Int}{b:Bool}{c:Value}(d:kD n a=some b)(g:H<=w.heap.size)(f:BD (CR .u8) w H a c):
 Calls prog 4 [c].toArray w (Cx (.bool b) w):=by
 have e:=AF w;unfold kD at d;exact AI func4 z ntmps4 (Rc 8 (Yl z (IF z Rw (f.oj e)) (Gv d e)))
def NA(a0:List Ax)(a1:List Ax)(k0:Int->Option Bool):Nat->Int->Option Bool
 |0,_=>none
 |m+1,b=>cond (decide (b<(a0.length:Int))) ((AU a0 b).bind fun c=>(AU a1 b).bind fun a=>cond (!((c.b==a.b)&&(c.c==a.c))) (some false) (NA a0 a1 k0 m (wrap .i64 (b+1)))) (k0 b)
def bY(n:Nat)(a0:List Ax)(a1:List Ax):Option Bool:=cond (((a0.length:Int)) !=((a1.length:Int))) (some false) (NA a0 a1 (fun a=>some true) n 0)
theorem AcL{g h:List Ax}{i:Bool}{j k:Value}(a:bY n g h=some i)(y:H<=w.heap.size)(l:BD C_Span w H g j)(o:BD C_Span w H h k):
 Calls prog 8 [j,k].toArray w (Cx (.bool i) w):=by
 have m:=AF w;unfold bY at a;refine AI func8 z ntmps8 (Rc 9 (Yl z (IF z HT (l.oj m)) (Ro 1 (Yl z (IF z HT (o.oj m)) (Ro 3 (Wt a m ?_))))));intro a;refine Rc 9 (AL (fun c f wl=>∃d:Int,Kn 26 [(0,j),(1,k),(5,.i d)] f∧Bl w wl∧NA g h (fun d=>(some true)) c d=some i) n ?_ ?_)
 ·intro f e;exact⟨0,e.sub z,AF _,a⟩
 ·rintro c f _ ⟨d,e,b,a⟩;refine En e ?_;rcases c with _|c;exact Ek a;rw [NA.eq_2]at a;have h:=b.size;refine Rc 5 (Yl z (IF z HT (l.oj b)) (Ro 3 (Wf a b ?_)));intro a;refine Rc 5 (EM Tryz.hm (Qr 2 (Iq a (l.oj b) HT CF ?_)));rintro p _ a _ ⟨_,_,_,rfl,_,s,t⟩;obtain rfl:=Cr s;refine Qy z (GD (us:=[.i p.b,.i p.c]) z EL t CF) (Qr 2 (Iq a (o.oj b) HT CF ?_));rintro q _ a _ ⟨_,_,_,rfl,_,u,v⟩;obtain rfl:=Cr u;refine Qy z (GD (us:=[.i q.b,.i q.c]) z EL v CF) (Qy z (pT z z z Sx (Sv _ _) z) ?_);refine CQ fun N r=>?_;have⟨x,_⟩:=Et b r;refine Re 1 (Wt a x ?_);intro a;refine Rc 9 ?_;intro f e;exact⟨c,nr,(wrap .i64 (d+1)),e.sub z,(AC b r),a⟩

theorem AdJ:Rd prog 5 (CR .u8) (sP .u8):=Rd.int mB
theorem AgC:Rd prog 22 (HU (CR .u8)) (fun xs=>xs.length<=9223372036854775807∧∀x∈xs,(sP .u8) x):=Rd.slice Rw (by kernel_rfl) rfl AdJ
end Go.Proofs.YtpnjglnpdmgghaaGreatDoor
