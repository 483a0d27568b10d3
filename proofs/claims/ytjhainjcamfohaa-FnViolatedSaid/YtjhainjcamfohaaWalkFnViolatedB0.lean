/- The walks: every function that FnViolated reaches computes the plain function that is typed beside it; no condition. -/
import Derived.Test.YtjhainjcamfohaaProg
import Derived.Test.YtjhainjcamfohaaDat
set_option linter.all false
set_option maxRecDepth 20000
set_option maxHeartbeats 40000000
namespace Go.Proofs.Ytjhainjcamfohaa
open Go Go.RowKit Go.Eng Go.Proofs.Try
open Go.IntKind (wrap)
variable {n H:Nat} {w:World}
theorem Try.hm : Try.prog.follows .mixedOrders = true := by kernel_rfl
theorem ag_2 : aggB prog 2 = some false := by kernel_rfl
theorem ag_22 : aggB prog 22 = some false := by kernel_rfl
theorem ag_28 : aggB prog 28 = some true := by kernel_rfl
theorem ag_3 : aggB prog 3 = some false := by kernel_rfl
theorem ag_5 : aggB prog 5 = some false := by kernel_rfl
theorem cn_2 : cellsN prog 2 = some 1 := by kernel_rfl
theorem cn_28 : cellsN prog 28 = some 4 := by kernel_rfl
theorem cn_3 : cellsN prog 3 = some 1 := by kernel_rfl
theorem cn_5 : cellsN prog 5 = some 1 := by kernel_rfl
theorem es_28 : eqSB prog 28 4 = true := by kernel_rfl
theorem fo_28_3 : fieldOff prog 28 3 = some 3 := by kernel_rfl
theorem fo_47_0 : fieldOff prog 47 0 = some 0 := by kernel_rfl
theorem fo_47_1 : fieldOff prog 47 1 = some 1 := by kernel_rfl
theorem fo_47_2 : fieldOff prog 47 2 = some 2 := by kernel_rfl
theorem gf_15 : goFn prog 15 = true := by kernel_rfl
theorem gf_16 : goFn prog 16 = true := by kernel_rfl
theorem gf_17 : goFn prog 17 = true := by kernel_rfl
theorem gf_18 : goFn prog 18 = true := by kernel_rfl
theorem gf_19 : goFn prog 19 = true := by kernel_rfl
theorem gf_20 : goFn prog 20 = true := by kernel_rfl
theorem gf_21 : goFn prog 21 = true := by kernel_rfl
theorem gf_24 : goFn prog 24 = true := by kernel_rfl
theorem gf_25 : goFn prog 25 = true := by kernel_rfl
theorem gf_26 : goFn prog 26 = true := by kernel_rfl
theorem gf_27 : goFn prog 27 = true := by kernel_rfl
theorem gf_28 : goFn prog 28 = true := by kernel_rfl
theorem gf_29 : goFn prog 29 = true := by kernel_rfl
theorem gf_30 : goFn prog 30 = true := by kernel_rfl
theorem gf_31 : goFn prog 31 = true := by kernel_rfl
theorem gf_32 : goFn prog 32 = true := by kernel_rfl
theorem gf_5 : goFn prog 5 = true := by kernel_rfl
theorem gf_6 : goFn prog 6 = true := by kernel_rfl
theorem gf_7 : goFn prog 7 = true := by kernel_rfl
theorem gf_8 : goFn prog 8 = true := by kernel_rfl
theorem in_28 : infoN prog 28 = some ([.i 0, .i 0, .i 0, .i 0], 4, 32) := by kernel_rfl
theorem oc_28 : ∀ (a0 : Int) (a1 : Int) (a2 : Int) (a3 : Int), okCT prog 28 [.i a0, .i a1, .i a2, .i a3] = true := by intros; kernel_rfl
theorem pl_28 : placesN prog 28 = some [(0, 1), (1, 1), (2, 1), (3, 1)] := by kernel_rfl
theorem pl_47 : placesN prog 47 = some [(0, 1), (1, 1), (2, 1)] := by kernel_rfl
theorem zn_28 : zeroN prog 28 = some [.i 0, .i 0, .i 0, .i 0] := by kernel_rfl
theorem zn_47 : zeroN prog 47 = some [.slice none 0 0, .i 0, .i 0] := by kernel_rfl
def F_f (n:Nat) (a0:Int):Option Bool:=(some ((a0 != a0)))
theorem W_f {A:Int} {r:Bool} (hF:F_f n A = some r) :
    Calls prog 30 [.i A].toArray w (Ret fun u C => u = .bool r∧Ext w C):=by
  refine calls_ofD func30 rfl ntmps30 ?_;have B:=Ext.refl w;unfold F_f at hF;refine Rc 14 ?_;cases szt hF;exact Ne rfl rfl ⟨_,rfl,rfl,B⟩
def F_j (n:Nat) (a0:Int) (a1:Int):Option Int:=((F_f n a0).bind fun r1=>((F_f n a1).bind fun r7=>(bif r1 then (bif r7 then (some 0) else (some (-1))) else (bif r7 then (some 1) else (bif decide (a0 < a1) then (some (-1)) else (bif decide (a0 > a1) then (some 1) else (some 0)))))))
theorem W_j {B:Int} {C:Int} {r:Int} (hF:F_j n B C = some r) :
    Calls prog 27 [.i B,.i C].toArray w (Ret fun u J => u = .i r∧Ext w J):=by
  refine calls_ofD func27 rfl ntmps27 ?_;have D:=Ext.refl w;unfold F_j at hF;refine Rc 8 ?_;have ⟨M,F,hF⟩:=bsome hF;refine Ef rfl (eca rfl gf_30 (W_f F :)) ?_;rintro _ O ⟨rfl,I⟩;have ⟨E,L⟩:=Et D I;refine Ro 6 ?_;have ⟨N,G,hF⟩:=bsome hF;refine Ef rfl (eca rfl gf_30 (W_f G :)) ?_;rintro _ P ⟨rfl,H⟩;have ⟨A,K⟩:=Et E H;refine Ro 9 (Wc rfl hF ?_ ?_)
  · intro hF;refine Rc 6 (Wc rfl hF ?_ ?_)
    · intro hF;refine Rc 8 ?_;cases szt hF;exact Ne rfl rfl ⟨_,rfl,rfl,A⟩
    · intro hF;refine Rc 9 ?_;cases szt hF;exact Ne rfl rfl ⟨_,rfl,rfl,A⟩
  · intro hF;refine Rc 8 (Wc rfl hF ?_ ?_)
    · intro hF;refine Rc 7 ?_;cases szt hF;exact Ne rfl rfl ⟨_,rfl,rfl,A⟩
    · intro hF;refine Rc 10 (Wc rfl hF ?_ ?_)
      · intro hF;refine Rc 7 ?_;cases szt hF;exact Ne rfl rfl ⟨_,rfl,rfl,A⟩
      · intro hF;refine Rc 10 (Wc rfl hF ?_ ?_)
        · intro hF;refine Rc 7 ?_;cases szt hF;exact Ne rfl rfl ⟨_,rfl,rfl,A⟩
        · intro hF;refine Rc 8 ?_;cases szt hF;exact Ne rfl rfl ⟨_,rfl,rfl,A⟩
end Go.Proofs.Ytjhainjcamfohaa
