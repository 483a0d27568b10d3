/- The walks: every function that FnExactEdgePairs reaches computes the plain function that is typed beside it; no condition. -/
import Derived.Test.YtiaobghojdehbaaDoorProg
import Derived.Test.YtiaobghojdehbaaDoorDat
import Derived.Test.YtiaobghojdehbaaDoorShelf
set_option linter.all false
set_option maxRecDepth 20000
set_option maxHeartbeats 40000000
namespace Go.Proofs.YtiaobghojdehbaaDoor
open Go Go.RowKit Go.Eng Go.Proofs.Tryd
open Go.IntKind (wrap)
variable {n H:Nat} {w:World}
theorem Tryd.hm : Tryd.prog.follows .mixedOrders = true := by kernel_rfl
theorem ag_2 : aggB prog 2 = some false := by kernel_rfl
theorem ag_36 : aggB prog 36 = some true := by kernel_rfl
theorem ag_39 : aggB prog 39 = some true := by kernel_rfl
theorem ag_4 : aggB prog 4 = some false := by kernel_rfl
theorem ag_43 : aggB prog 43 = some true := by kernel_rfl
theorem ag_45 : aggB prog 45 = some true := by kernel_rfl
theorem ag_50 : aggB prog 50 = some false := by kernel_rfl
theorem ag_59 : aggB prog 59 = some true := by kernel_rfl
theorem ag_9 : aggB prog 9 = some false := by kernel_rfl
theorem cn_2 : cellsN prog 2 = some 1 := by kernel_rfl
theorem cn_36 : cellsN prog 36 = some 11 := by kernel_rfl
theorem cn_39 : cellsN prog 39 = some 11 := by kernel_rfl
theorem cn_4 : cellsN prog 4 = some 1 := by kernel_rfl
theorem cn_43 : cellsN prog 43 = some 3 := by kernel_rfl
theorem cn_45 : cellsN prog 45 = some 9 := by kernel_rfl
theorem cn_50 : cellsN prog 50 = some 1 := by kernel_rfl
theorem cn_59 : cellsN prog 59 = some 3 := by kernel_rfl
theorem cn_9 : cellsN prog 9 = some 1 := by kernel_rfl
theorem fo_36_0 : fieldOff prog 36 0 = some 0 := by kernel_rfl
theorem fo_36_1 : fieldOff prog 36 1 = some 1 := by kernel_rfl
theorem fo_36_10 : fieldOff prog 36 10 = some 10 := by kernel_rfl
theorem fo_36_2 : fieldOff prog 36 2 = some 2 := by kernel_rfl
theorem fo_36_3 : fieldOff prog 36 3 = some 3 := by kernel_rfl
theorem fo_36_4 : fieldOff prog 36 4 = some 4 := by kernel_rfl
theorem fo_36_5 : fieldOff prog 36 5 = some 5 := by kernel_rfl
theorem fo_36_6 : fieldOff prog 36 6 = some 6 := by kernel_rfl
theorem fo_36_7 : fieldOff prog 36 7 = some 7 := by kernel_rfl
theorem fo_36_8 : fieldOff prog 36 8 = some 8 := by kernel_rfl
theorem fo_36_9 : fieldOff prog 36 9 = some 9 := by kernel_rfl
theorem fo_39_0 : fieldOff prog 39 0 = some 0 := by kernel_rfl
theorem fo_39_1 : fieldOff prog 39 1 = some 1 := by kernel_rfl
theorem fo_39_10 : fieldOff prog 39 10 = some 10 := by kernel_rfl
theorem fo_39_2 : fieldOff prog 39 2 = some 2 := by kernel_rfl
theorem fo_39_3 : fieldOff prog 39 3 = some 3 := by kernel_rfl
theorem fo_39_4 : fieldOff prog 39 4 = some 4 := by kernel_rfl
theorem fo_39_5 : fieldOff prog 39 5 = some 5 := by kernel_rfl
theorem fo_39_6 : fieldOff prog 39 6 = some 6 := by kernel_rfl
theorem fo_39_7 : fieldOff prog 39 7 = some 7 := by kernel_rfl
theorem fo_39_8 : fieldOff prog 39 8 = some 8 := by kernel_rfl
theorem fo_39_9 : fieldOff prog 39 9 = some 9 := by kernel_rfl
theorem fo_43_0 : fieldOff prog 43 0 = some 0 := by kernel_rfl
theorem fo_43_1 : fieldOff prog 43 1 = some 1 := by kernel_rfl
theorem fo_45_0 : fieldOff prog 45 0 = some 0 := by kernel_rfl
theorem fo_45_1 : fieldOff prog 45 1 = some 3 := by kernel_rfl
theorem fo_45_2 : fieldOff prog 45 2 = some 6 := by kernel_rfl
theorem fo_45_3 : fieldOff prog 45 3 = some 7 := by kernel_rfl
theorem fo_45_4 : fieldOff prog 45 4 = some 8 := by kernel_rfl
theorem fo_59_0 : fieldOff prog 59 0 = some 0 := by kernel_rfl
theorem fo_59_1 : fieldOff prog 59 1 = some 1 := by kernel_rfl
theorem fo_59_2 : fieldOff prog 59 2 = some 2 := by kernel_rfl
theorem ft_43_0 : fieldT prog 43 0 = some (2, 0) := by kernel_rfl
theorem ft_59_0 : fieldT prog 59 0 = some (2, 0) := by kernel_rfl
theorem gf_10 : goFn prog 10 = true := by kernel_rfl
theorem gf_11 : goFn prog 11 = true := by kernel_rfl
theorem gf_12 : goFn prog 12 = true := by kernel_rfl
theorem gf_13 : goFn prog 13 = true := by kernel_rfl
theorem gf_14 : goFn prog 14 = true := by kernel_rfl
theorem gf_15 : goFn prog 15 = true := by kernel_rfl
theorem gf_16 : goFn prog 16 = true := by kernel_rfl
theorem gf_17 : goFn prog 17 = true := by kernel_rfl
theorem gf_18 : goFn prog 18 = true := by kernel_rfl
theorem gf_19 : goFn prog 19 = true := by kernel_rfl
theorem gf_20 : goFn prog 20 = true := by kernel_rfl
theorem gf_21 : goFn prog 21 = true := by kernel_rfl
theorem gf_22 : goFn prog 22 = true := by kernel_rfl
theorem gf_23 : goFn prog 23 = true := by kernel_rfl
theorem gf_24 : goFn prog 24 = true := by kernel_rfl
theorem gf_25 : goFn prog 25 = true := by kernel_rfl
theorem gf_26 : goFn prog 26 = true := by kernel_rfl
theorem gf_27 : goFn prog 27 = true := by kernel_rfl
theorem gf_28 : goFn prog 28 = true := by kernel_rfl
theorem gf_29 : goFn prog 29 = true := by kernel_rfl
theorem gf_30 : goFn prog 30 = true := by kernel_rfl
theorem gf_31 : goFn prog 31 = true := by kernel_rfl
theorem gf_32 : goFn prog 32 = true := by kernel_rfl
theorem gf_33 : goFn prog 33 = true := by kernel_rfl
theorem gf_34 : goFn prog 34 = true := by kernel_rfl
theorem gf_35 : goFn prog 35 = true := by kernel_rfl
theorem gf_36 : goFn prog 36 = true := by kernel_rfl
theorem gf_37 : goFn prog 37 = true := by kernel_rfl
theorem gf_38 : goFn prog 38 = true := by kernel_rfl
theorem gf_39 : goFn prog 39 = true := by kernel_rfl
theorem gf_4 : goFn prog 4 = true := by kernel_rfl
theorem gf_40 : goFn prog 40 = true := by kernel_rfl
theorem gf_41 : goFn prog 41 = true := by kernel_rfl
theorem gf_42 : goFn prog 42 = true := by kernel_rfl
theorem gf_43 : goFn prog 43 = true := by kernel_rfl
theorem gf_44 : goFn prog 44 = true := by kernel_rfl
theorem gf_45 : goFn prog 45 = true := by kernel_rfl
theorem gf_46 : goFn prog 46 = true := by kernel_rfl
theorem gf_47 : goFn prog 47 = true := by kernel_rfl
theorem gf_48 : goFn prog 48 = true := by kernel_rfl
theorem gf_49 : goFn prog 49 = true := by kernel_rfl
theorem gf_5 : goFn prog 5 = true := by kernel_rfl
theorem gf_50 : goFn prog 50 = true := by kernel_rfl
theorem gf_51 : goFn prog 51 = true := by kernel_rfl
theorem gf_52 : goFn prog 52 = true := by kernel_rfl
theorem gf_53 : goFn prog 53 = true := by kernel_rfl
theorem gf_54 : goFn prog 54 = true := by kernel_rfl
theorem gf_55 : goFn prog 55 = true := by kernel_rfl
theorem gf_56 : goFn prog 56 = true := by kernel_rfl
theorem gf_57 : goFn prog 57 = true := by kernel_rfl
theorem gf_6 : goFn prog 6 = true := by kernel_rfl
theorem gf_7 : goFn prog 7 = true := by kernel_rfl
theorem gf_8 : goFn prog 8 = true := by kernel_rfl
theorem gf_9 : goFn prog 9 = true := by kernel_rfl
theorem in_2 : infoN prog 2 = some ([.i 0], 1, 8) := by kernel_rfl
theorem in_39 : infoN prog 39 = some ([.string ByteArray.empty, .i 0, .i 0, .i 0, .i 0, .i 0, .i 0, .bool false, .i 0, .i 0, .i 0], 11, 96) := by kernel_rfl
theorem in_5 : infoN prog 5 = some ([.int .u8 0], 1, 1) := by kernel_rfl
theorem in_50 : infoN prog 50 = some ([.slice none 0 0], 1, 24) := by kernel_rfl
theorem in_9 : infoN prog 9 = some ([.string ByteArray.empty], 1, 16) := by kernel_rfl
theorem pl_41 : placesN prog 41 = some [(0, 1), (1, 1)] := by kernel_rfl
theorem pl_43 : placesN prog 43 = some [(0, 1), (1, 2)] := by kernel_rfl
theorem pl_45 : placesN prog 45 = some [(0, 3), (3, 3), (6, 1), (7, 1), (8, 1)] := by kernel_rfl
theorem pl_59 : placesN prog 59 = some [(0, 1), (1, 1), (2, 1)] := by kernel_rfl
theorem zn_39 : zeroN prog 39 = some [.string ByteArray.empty, .i 0, .i 0, .i 0, .i 0, .i 0, .i 0, .bool false, .i 0, .i 0, .i 0] := by kernel_rfl
theorem zn_41 : zeroN prog 41 = some [.i 0, .i 0] := by kernel_rfl
theorem zn_43 : zeroN prog 43 = some [.i 0, .i 0, .i 0] := by kernel_rfl
theorem zn_45 : zeroN prog 45 = some [.i 0, .i 0, .i 0, .i 0, .i 0, .i 0, .i 0, .i 0, .i 0] := by kernel_rfl
theorem zn_59 : zeroN prog 59 = some [.i 0, .i 0, .i 0] := by kernel_rfl
def F_01 (n : Nat) (a0_s : ByteArray) (a1_cutset : ByteArray) : Option ByteArray := if a0_s.size ≤ 9223372036854775807 ∧ a1_cutset.size < 4294967281 ∧ (a1_cutset.data.toList.all fun b => decide (b.toNat < 128)) = true then some ⟨(Lib.trimS a0_s.data.toList a1_cutset.data.toList).toArray⟩ else none
theorem W_01 {n : Nat} {a0_s : ByteArray} {a1_cutset : ByteArray} {r : ByteArray} {w : World} (hF : F_01 n a0_s a1_cutset = some r) :
    Calls prog 55 [.string a0_s, .string a1_cutset].toArray w (Ret fun u w2 => u = .string r ∧ Ext w w2) := by
  unfold F_01 at hF
  split at hF
  · rename_i h
    obtain rfl := Option.some.inj hF
    refine (strings_Trim_ascii a0_s a1_cutset w h.1 h.2.1 (fun j b hb => of_decide_eq_true (List.all_eq_true.1 h.2.2 b (List.mem_of_getElem? hb)))).mono ?_
    rintro e w' ⟨rfl, hB⟩
    exact ⟨_, rfl, rfl, hB⟩
  · cases hF
def F_0h (n : Nat) (a0_s : ByteArray) (a1_c : Int) : Option Int := some (Lib.indexByte a0_s.data.toList a1_c.toNat.toUInt8)
theorem W_0h {n : Nat} {a0_s : ByteArray} {a1_c : Int} {r : Int} {w : World} (hF : F_0h n a0_s a1_c = some r) :
    Calls prog 56 [.string a0_s, .int .u8 a1_c].toArray w (Ret fun u w2 => u = .i r ∧ Ext w w2) := by
  obtain rfl := Option.some.inj hF
  refine (strings_IndexByte a0_s a1_c w).mono ?_
  rintro e w' ⟨rfl, rfl⟩
  exact ⟨_, rfl, rfl, Ext.refl _⟩
def F_g_L1 (a0:List ByteArray) (a1:ByteArray) (k0:Int→Option Int):Nat→Int→Option Int
  | 0, _=>none
  | m + 1, i5=>(bif decide (i5 < (a0.length:Int)) then ((getI a0 i5).bind fun x6=>(bif (a1.toList == x6.toList) then (some i5) else (F_g_L1 a0 a1 k0 m (wrap .i64 (i5 + 1))))) else (k0 i5))
def F_g (n:Nat) (a0:List ByteArray) (a1:ByteArray):Option Int:=(F_g_L1 a0 a1 (fun i5=>(some (-1))) n 0)
theorem W_g {C:List ByteArray} {D:ByteArray} {r:Int} {F:Value} (hF:F_g n C D = some r) (hH:H ≤ w.heap.size) (G:slRep cStr w (Iv 0 H) C F) :
    Calls prog 57 [F,.string D].toArray w (Ret fun u L => u = .i r∧Ext w L):=by
  refine calls_ofD func57 rfl ntmps57 ?_;have I:Ext w w:=Ext.refl w;unfold F_g at hF;refine Rc 9 (Yl rfl (yle rfl underlying72 (G.oh hH I)) (Ro 4 ?_));refine WC.loopD (fun B a wl => ∃ (A:Int),Kn 19 [(0,F),(1,.string D),(7,.i ((C.length:Int))),(8,.i A)] a∧Ext w wl∧w.heap.size ≤ wl.heap.size∧F_g_L1 C D (fun A => (some (-1))) B A = some r) n ?_ ?_
  · intro a hK;exact ⟨0,hK.sub rfl,I,Nat.le_refl _,hF⟩
  · rintro B a Q ⟨A,hK,E,O,hF⟩;revert a;change WC _ _ _ _ _ _
    cases B with
    | zero => exact nos hF
    | succ B =>
      rw [F_g_L1.eq_2] at hF;refine Rc 6 (Wc rfl hF ?_ ?_)
      · intro hF;refine Rc 15 ?_;have ⟨R,K,hF⟩:=bsome hF;refine Ye rfl (yix rfl underlying72 cn_9 (G.oh hH E) K) ?_;rintro _ ⟨M,P,_,rfl,N,rfl,J⟩;refine Yl rfl (ylc 0 rfl ag_9 J rfl rfl) (Ro 3 (Wc rfl hF ?_ ?_))
        · intro hF;refine Rc 12 ?_;obtain rfl:=szs hF;exact Ne rfl rfl ⟨_,rfl,rfl,E⟩
        · intro hF;refine Rc 8 ?_;intro a hK;exact ⟨B,Nat.le.refl,(wrap .i64 (A + 1)),hK.sub rfl,E,(by omega),hF⟩
      · intro hF;refine Rc 11 ?_;obtain rfl:=szs hF;exact Ne rfl rfl ⟨_,rfl,rfl,E⟩
def F_02 (n:Nat) (a0:List ByteArray) (a1:ByteArray):Option Bool:=((F_g n a0 a1).bind fun r3=>(some (decide (r3 ≥ 0))))
theorem W_02 {A:List ByteArray} {B:ByteArray} {r:Bool} {D:Value} (hF:F_02 n A B = some r) (hH:H ≤ w.heap.size) (E:slRep cStr w (Iv 0 H) A D) :
    Calls prog 53 [D,.string B].toArray w (Ret fun u J => u = .bool r∧Ext w J):=by
  refine calls_ofD func53 rfl ntmps53 ?_;have C:Ext w w:=Ext.refl w;unfold F_02 at hF;refine Rc 9 ?_;have ⟨L,G,hF⟩:=bsome hF;refine Ef rfl (eca rfl gf_57 (W_g G (by omega) (E.oh hH C) :)) ?_;rintro _ M ⟨rfl,I⟩;obtain ⟨F,K⟩:=Et C I;refine Ro 5 ?_;obtain rfl:=szs hF;exact Ne rfl rfl ⟨_,rfl,rfl,F⟩
end Go.Proofs.YtiaobghojdehbaaDoor
