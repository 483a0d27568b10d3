/- The walks: every function that FnExactViolatedChecks reaches computes the plain function that is typed beside it; no condition. -/
import Derived.Test.YtjhainjcamfohaaProg
import Derived.Test.YtjhainjcamfohaaDat
set_option linter.all false
set_option maxRecDepth 20000
set_option maxHeartbeats 40000000
namespace Go.Proofs.Ytjhainjcamfohaa
open Go Go.RowKit Go.Eng Go.Proofs.Try
open Go.IntKind (wrap)
variable {n H:Nat} {w:World}
theorem Try.hm : Try.prog.follows .mixedOrders = true := by kernel_rfl
theorem ag_2 : aggB prog 2 = some false := by kernel_rfl
theorem ag_28 : aggB prog 28 = some true := by kernel_rfl
theorem ag_44 : aggB prog 44 = some true := by kernel_rfl
theorem cn_2 : cellsN prog 2 = some 1 := by kernel_rfl
theorem cn_28 : cellsN prog 28 = some 4 := by kernel_rfl
theorem cn_44 : cellsN prog 44 = some 4 := by kernel_rfl
theorem fo_28_0 : fieldOff prog 28 0 = some 0 := by kernel_rfl
theorem fo_28_1 : fieldOff prog 28 1 = some 1 := by kernel_rfl
theorem fo_28_2 : fieldOff prog 28 2 = some 2 := by kernel_rfl
theorem fo_28_3 : fieldOff prog 28 3 = some 3 := by kernel_rfl
theorem fo_44_0 : fieldOff prog 44 0 = some 0 := by kernel_rfl
theorem fo_44_1 : fieldOff prog 44 1 = some 1 := by kernel_rfl
theorem fo_44_2 : fieldOff prog 44 2 = some 2 := by kernel_rfl
theorem fo_44_3 : fieldOff prog 44 3 = some 3 := by kernel_rfl
theorem gf_10 : goFn prog 10 = true := by kernel_rfl
theorem gf_11 : goFn prog 11 = true := by kernel_rfl
theorem gf_12 : goFn prog 12 = true := by kernel_rfl
theorem gf_13 : goFn prog 13 = true := by kernel_rfl
theorem gf_14 : goFn prog 14 = true := by kernel_rfl
theorem gf_17 : goFn prog 17 = true := by kernel_rfl
theorem gf_18 : goFn prog 18 = true := by kernel_rfl
theorem gf_19 : goFn prog 19 = true := by kernel_rfl
theorem gf_20 : goFn prog 20 = true := by kernel_rfl
theorem gf_21 : goFn prog 21 = true := by kernel_rfl
theorem gf_22 : goFn prog 22 = true := by kernel_rfl
theorem gf_23 : goFn prog 23 = true := by kernel_rfl
theorem gf_25 : goFn prog 25 = true := by kernel_rfl
theorem gf_26 : goFn prog 26 = true := by kernel_rfl
theorem gf_27 : goFn prog 27 = true := by kernel_rfl
theorem gf_28 : goFn prog 28 = true := by kernel_rfl
theorem gf_29 : goFn prog 29 = true := by kernel_rfl
theorem gf_30 : goFn prog 30 = true := by kernel_rfl
theorem gf_31 : goFn prog 31 = true := by kernel_rfl
theorem gf_32 : goFn prog 32 = true := by kernel_rfl
theorem gf_7 : goFn prog 7 = true := by kernel_rfl
theorem gf_9 : goFn prog 9 = true := by kernel_rfl
theorem in_28 : infoN prog 28 = some ([.i 0, .i 0, .i 0, .i 0], 4, 32) := by kernel_rfl
theorem zn_28 : zeroN prog 28 = some [.i 0, .i 0, .i 0, .i 0] := by kernel_rfl
def F_g (n:Nat) (a0:Int):Option Bool:=(some ((a0 != a0)))
theorem W_g {A:Int} {r:Bool} (hF:F_g n A = some r) :
    Calls prog 30 [.i A].toArray w (Ret fun u C => u = .bool r∧Ext w C):=by
  refine calls_ofD func30 rfl ntmps30 ?_;have B:=Ext.refl w;unfold F_g at hF;refine Rc 14 ?_;cases szt hF;exact Ne rfl rfl ⟨_,rfl,rfl,B⟩
def F_k (n:Nat) (a0:Int) (a1:Int):Option Int:=((F_g n a0).bind fun r1=>((F_g n a1).bind fun r7=>(bif r1 then (bif r7 then (some 0) else (some (-1))) else (bif r7 then (some 1) else (bif decide (a0 < a1) then (some (-1)) else (bif decide (a0 > a1) then (some 1) else (some 0)))))))
theorem W_k {B:Int} {C:Int} {r:Int} (hF:F_k n B C = some r) :
    Calls prog 27 [.i B,.i C].toArray w (Ret fun u J => u = .i r∧Ext w J):=by
  refine calls_ofD func27 rfl ntmps27 ?_;have D:=Ext.refl w;unfold F_k at hF;refine Rc 8 ?_;have ⟨M,F,hF⟩:=bsome hF;refine Ef rfl (eca rfl gf_30 (W_g F :)) ?_;rintro _ O ⟨rfl,I⟩;have ⟨E,L⟩:=Et D I;refine Ro 6 ?_;have ⟨N,G,hF⟩:=bsome hF;refine Ef rfl (eca rfl gf_30 (W_g G :)) ?_;rintro _ P ⟨rfl,H⟩;have ⟨A,K⟩:=Et E H;refine Ro 9 (Wc rfl hF ?_ ?_)
  · intro hF;refine Rc 6 (Wc rfl hF ?_ ?_)
    · intro hF;refine Rc 8 ?_;cases szt hF;exact Ne rfl rfl ⟨_,rfl,rfl,A⟩
    · intro hF;refine Rc 9 ?_;cases szt hF;exact Ne rfl rfl ⟨_,rfl,rfl,A⟩
  · intro hF;refine Rc 8 (Wc rfl hF ?_ ?_)
    · intro hF;refine Rc 7 ?_;cases szt hF;exact Ne rfl rfl ⟨_,rfl,rfl,A⟩
    · intro hF;refine Rc 10 (Wc rfl hF ?_ ?_)
      · intro hF;refine Rc 7 ?_;cases szt hF;exact Ne rfl rfl ⟨_,rfl,rfl,A⟩
      · intro hF;refine Rc 10 (Wc rfl hF ?_ ?_)
        · intro hF;refine Rc 7 ?_;cases szt hF;exact Ne rfl rfl ⟨_,rfl,rfl,A⟩
        · intro hF;refine Rc 8 ?_;cases szt hF;exact Ne rfl rfl ⟨_,rfl,rfl,A⟩
end Go.Proofs.Ytjhainjcamfohaa
