/- The walks: every function that FnExactActiveLevel reaches computes the plain function that is typed beside it; no condition. -/
import Derived.Test.YthjagnioabgceabGreatDoorProg
import Derived.Test.YthjagnioabgceabGreatDoorDat
import Derived.Test.YthjagnioabgceabGreatDoorShelf
set_option linter.all false
set_option maxRecDepth 20000
namespace Go.Proofs.YthjagnioabgceabGreatDoor
open Go Go.RowKit Go.Eng
theorem Tryz.hm : Tryz.prog.follows .mixedOrders = true := by kernel_rfl
theorem ag_2 : aggB Tryz.prog 2 = some false := by kernel_rfl
theorem ag_22 : aggB Tryz.prog 22 = some false := by kernel_rfl
theorem ag_23 : aggB Tryz.prog 23 = some false := by kernel_rfl
theorem ag_24 : aggB Tryz.prog 24 = some false := by kernel_rfl
theorem ag_26 : aggB Tryz.prog 26 = some true := by kernel_rfl
theorem ag_29 : aggB Tryz.prog 29 = some false := by kernel_rfl
theorem ag_30 : aggB Tryz.prog 30 = some false := by kernel_rfl
theorem ag_32 : aggB Tryz.prog 32 = some true := by kernel_rfl
theorem ag_4 : aggB Tryz.prog 4 = some false := by kernel_rfl
theorem ag_51 : aggB Tryz.prog 51 = some true := by kernel_rfl
theorem ag_53 : aggB Tryz.prog 53 = some false := by kernel_rfl
theorem ag_55 : aggB Tryz.prog 55 = some true := by kernel_rfl
theorem ag_60 : aggB Tryz.prog 60 = some false := by kernel_rfl
theorem ag_62 : aggB Tryz.prog 62 = some true := by kernel_rfl
theorem ag_67 : aggB Tryz.prog 67 = some true := by kernel_rfl
theorem ag_89 : aggB Tryz.prog 89 = some true := by kernel_rfl
theorem ag_9 : aggB Tryz.prog 9 = some false := by kernel_rfl
theorem ag_91 : aggB Tryz.prog 91 = some true := by kernel_rfl
theorem ag_94 : aggB Tryz.prog 94 = some true := by kernel_rfl
theorem cn_2 : cellsN Tryz.prog 2 = some 1 := by kernel_rfl
theorem cn_24 : cellsN Tryz.prog 24 = some 1 := by kernel_rfl
theorem cn_26 : cellsN Tryz.prog 26 = some 7 := by kernel_rfl
theorem cn_29 : cellsN Tryz.prog 29 = some 1 := by kernel_rfl
theorem cn_30 : cellsN Tryz.prog 30 = some 1 := by kernel_rfl
theorem cn_32 : cellsN Tryz.prog 32 = some 7 := by kernel_rfl
theorem cn_4 : cellsN Tryz.prog 4 = some 1 := by kernel_rfl
theorem cn_51 : cellsN Tryz.prog 51 = some 4 := by kernel_rfl
theorem cn_55 : cellsN Tryz.prog 55 = some 6 := by kernel_rfl
theorem cn_60 : cellsN Tryz.prog 60 = some 1 := by kernel_rfl
theorem cn_62 : cellsN Tryz.prog 62 = some 6 := by kernel_rfl
theorem cn_67 : cellsN Tryz.prog 67 = some 4 := by kernel_rfl
theorem cn_89 : cellsN Tryz.prog 89 = some 3 := by kernel_rfl
theorem cn_9 : cellsN Tryz.prog 9 = some 1 := by kernel_rfl
theorem cn_91 : cellsN Tryz.prog 91 = some 2 := by kernel_rfl
theorem cn_94 : cellsN Tryz.prog 94 = some 3 := by kernel_rfl
theorem fo_26_0 : fieldOff Tryz.prog 26 0 = some 0 := by kernel_rfl
theorem fo_26_1 : fieldOff Tryz.prog 26 1 = some 1 := by kernel_rfl
theorem fo_26_2 : fieldOff Tryz.prog 26 2 = some 2 := by kernel_rfl
theorem fo_26_3 : fieldOff Tryz.prog 26 3 = some 3 := by kernel_rfl
theorem fo_26_4 : fieldOff Tryz.prog 26 4 = some 4 := by kernel_rfl
theorem fo_26_5 : fieldOff Tryz.prog 26 5 = some 5 := by kernel_rfl
theorem fo_26_6 : fieldOff Tryz.prog 26 6 = some 6 := by kernel_rfl
theorem fo_32_0 : fieldOff Tryz.prog 32 0 = some 0 := by kernel_rfl
theorem fo_32_1 : fieldOff Tryz.prog 32 1 = some 1 := by kernel_rfl
theorem fo_32_2 : fieldOff Tryz.prog 32 2 = some 2 := by kernel_rfl
theorem fo_32_3 : fieldOff Tryz.prog 32 3 = some 3 := by kernel_rfl
theorem fo_32_4 : fieldOff Tryz.prog 32 4 = some 4 := by kernel_rfl
theorem fo_32_5 : fieldOff Tryz.prog 32 5 = some 5 := by kernel_rfl
theorem fo_32_6 : fieldOff Tryz.prog 32 6 = some 6 := by kernel_rfl
theorem fo_51_0 : fieldOff Tryz.prog 51 0 = some 0 := by kernel_rfl
theorem fo_51_1 : fieldOff Tryz.prog 51 1 = some 1 := by kernel_rfl
theorem fo_51_2 : fieldOff Tryz.prog 51 2 = some 2 := by kernel_rfl
theorem fo_51_3 : fieldOff Tryz.prog 51 3 = some 3 := by kernel_rfl
theorem fo_55_0 : fieldOff Tryz.prog 55 0 = some 0 := by kernel_rfl
theorem fo_55_1 : fieldOff Tryz.prog 55 1 = some 1 := by kernel_rfl
theorem fo_55_2 : fieldOff Tryz.prog 55 2 = some 2 := by kernel_rfl
theorem fo_55_3 : fieldOff Tryz.prog 55 3 = some 3 := by kernel_rfl
theorem fo_55_4 : fieldOff Tryz.prog 55 4 = some 4 := by kernel_rfl
theorem fo_55_5 : fieldOff Tryz.prog 55 5 = some 5 := by kernel_rfl
theorem fo_62_0 : fieldOff Tryz.prog 62 0 = some 0 := by kernel_rfl
theorem fo_62_1 : fieldOff Tryz.prog 62 1 = some 1 := by kernel_rfl
theorem fo_62_2 : fieldOff Tryz.prog 62 2 = some 2 := by kernel_rfl
theorem fo_62_3 : fieldOff Tryz.prog 62 3 = some 3 := by kernel_rfl
theorem fo_62_4 : fieldOff Tryz.prog 62 4 = some 4 := by kernel_rfl
theorem fo_62_5 : fieldOff Tryz.prog 62 5 = some 5 := by kernel_rfl
theorem fo_67_0 : fieldOff Tryz.prog 67 0 = some 0 := by kernel_rfl
theorem fo_67_1 : fieldOff Tryz.prog 67 1 = some 1 := by kernel_rfl
theorem fo_67_2 : fieldOff Tryz.prog 67 2 = some 2 := by kernel_rfl
theorem fo_67_3 : fieldOff Tryz.prog 67 3 = some 3 := by kernel_rfl
theorem fo_89_0 : fieldOff Tryz.prog 89 0 = some 0 := by kernel_rfl
theorem fo_89_1 : fieldOff Tryz.prog 89 1 = some 1 := by kernel_rfl
theorem fo_89_2 : fieldOff Tryz.prog 89 2 = some 2 := by kernel_rfl
theorem fo_91_0 : fieldOff Tryz.prog 91 0 = some 0 := by kernel_rfl
theorem fo_91_1 : fieldOff Tryz.prog 91 1 = some 1 := by kernel_rfl
theorem fo_94_0 : fieldOff Tryz.prog 94 0 = some 0 := by kernel_rfl
theorem fo_94_1 : fieldOff Tryz.prog 94 1 = some 1 := by kernel_rfl
theorem fo_94_2 : fieldOff Tryz.prog 94 2 = some 2 := by kernel_rfl
theorem gf_10 : goFn Tryz.prog 10 = true := by kernel_rfl
theorem gf_100 : goFn Tryz.prog 100 = true := by kernel_rfl
theorem gf_11 : goFn Tryz.prog 11 = true := by kernel_rfl
theorem gf_12 : goFn Tryz.prog 12 = true := by kernel_rfl
theorem gf_13 : goFn Tryz.prog 13 = true := by kernel_rfl
theorem gf_14 : goFn Tryz.prog 14 = true := by kernel_rfl
theorem gf_15 : goFn Tryz.prog 15 = true := by kernel_rfl
theorem gf_16 : goFn Tryz.prog 16 = true := by kernel_rfl
theorem gf_17 : goFn Tryz.prog 17 = true := by kernel_rfl
theorem gf_18 : goFn Tryz.prog 18 = true := by kernel_rfl
theorem gf_19 : goFn Tryz.prog 19 = true := by kernel_rfl
theorem gf_20 : goFn Tryz.prog 20 = true := by kernel_rfl
theorem gf_21 : goFn Tryz.prog 21 = true := by kernel_rfl
theorem gf_22 : goFn Tryz.prog 22 = true := by kernel_rfl
theorem gf_23 : goFn Tryz.prog 23 = true := by kernel_rfl
theorem gf_24 : goFn Tryz.prog 24 = true := by kernel_rfl
theorem gf_25 : goFn Tryz.prog 25 = true := by kernel_rfl
theorem gf_26 : goFn Tryz.prog 26 = true := by kernel_rfl
theorem gf_27 : goFn Tryz.prog 27 = true := by kernel_rfl
theorem gf_28 : goFn Tryz.prog 28 = true := by kernel_rfl
theorem gf_29 : goFn Tryz.prog 29 = true := by kernel_rfl
theorem gf_30 : goFn Tryz.prog 30 = true := by kernel_rfl
theorem gf_31 : goFn Tryz.prog 31 = true := by kernel_rfl
theorem gf_32 : goFn Tryz.prog 32 = true := by kernel_rfl
theorem gf_33 : goFn Tryz.prog 33 = true := by kernel_rfl
theorem gf_34 : goFn Tryz.prog 34 = true := by kernel_rfl
theorem gf_35 : goFn Tryz.prog 35 = true := by kernel_rfl
theorem gf_36 : goFn Tryz.prog 36 = true := by kernel_rfl
theorem gf_37 : goFn Tryz.prog 37 = true := by kernel_rfl
theorem gf_38 : goFn Tryz.prog 38 = true := by kernel_rfl
theorem gf_39 : goFn Tryz.prog 39 = true := by kernel_rfl
theorem gf_4 : goFn Tryz.prog 4 = true := by kernel_rfl
theorem gf_40 : goFn Tryz.prog 40 = true := by kernel_rfl
theorem gf_41 : goFn Tryz.prog 41 = true := by kernel_rfl
theorem gf_42 : goFn Tryz.prog 42 = true := by kernel_rfl
theorem gf_43 : goFn Tryz.prog 43 = true := by kernel_rfl
theorem gf_44 : goFn Tryz.prog 44 = true := by kernel_rfl
theorem gf_45 : goFn Tryz.prog 45 = true := by kernel_rfl
theorem gf_46 : goFn Tryz.prog 46 = true := by kernel_rfl
theorem gf_47 : goFn Tryz.prog 47 = true := by kernel_rfl
theorem gf_48 : goFn Tryz.prog 48 = true := by kernel_rfl
theorem gf_49 : goFn Tryz.prog 49 = true := by kernel_rfl
theorem gf_5 : goFn Tryz.prog 5 = true := by kernel_rfl
theorem gf_50 : goFn Tryz.prog 50 = true := by kernel_rfl
theorem gf_51 : goFn Tryz.prog 51 = true := by kernel_rfl
theorem gf_52 : goFn Tryz.prog 52 = true := by kernel_rfl
theorem gf_53 : goFn Tryz.prog 53 = true := by kernel_rfl
theorem gf_54 : goFn Tryz.prog 54 = true := by kernel_rfl
theorem gf_55 : goFn Tryz.prog 55 = true := by kernel_rfl
theorem gf_56 : goFn Tryz.prog 56 = true := by kernel_rfl
theorem gf_57 : goFn Tryz.prog 57 = true := by kernel_rfl
theorem gf_58 : goFn Tryz.prog 58 = true := by kernel_rfl
theorem gf_6 : goFn Tryz.prog 6 = true := by kernel_rfl
theorem gf_67 : goFn Tryz.prog 67 = true := by kernel_rfl
theorem gf_68 : goFn Tryz.prog 68 = true := by kernel_rfl
theorem gf_69 : goFn Tryz.prog 69 = true := by kernel_rfl
theorem gf_7 : goFn Tryz.prog 7 = true := by kernel_rfl
theorem gf_70 : goFn Tryz.prog 70 = true := by kernel_rfl
theorem gf_71 : goFn Tryz.prog 71 = true := by kernel_rfl
theorem gf_72 : goFn Tryz.prog 72 = true := by kernel_rfl
theorem gf_73 : goFn Tryz.prog 73 = true := by kernel_rfl
theorem gf_74 : goFn Tryz.prog 74 = true := by kernel_rfl
theorem gf_75 : goFn Tryz.prog 75 = true := by kernel_rfl
theorem gf_76 : goFn Tryz.prog 76 = true := by kernel_rfl
theorem gf_8 : goFn Tryz.prog 8 = true := by kernel_rfl
theorem gf_82 : goFn Tryz.prog 82 = true := by kernel_rfl
theorem gf_83 : goFn Tryz.prog 83 = true := by kernel_rfl
theorem gf_84 : goFn Tryz.prog 84 = true := by kernel_rfl
theorem gf_85 : goFn Tryz.prog 85 = true := by kernel_rfl
theorem gf_86 : goFn Tryz.prog 86 = true := by kernel_rfl
theorem gf_87 : goFn Tryz.prog 87 = true := by kernel_rfl
theorem gf_88 : goFn Tryz.prog 88 = true := by kernel_rfl
theorem gf_89 : goFn Tryz.prog 89 = true := by kernel_rfl
theorem gf_9 : goFn Tryz.prog 9 = true := by kernel_rfl
theorem gf_90 : goFn Tryz.prog 90 = true := by kernel_rfl
theorem gf_94 : goFn Tryz.prog 94 = true := by kernel_rfl
theorem gf_95 : goFn Tryz.prog 95 = true := by kernel_rfl
theorem gf_99 : goFn Tryz.prog 99 = true := by kernel_rfl
theorem in_2 : infoN Tryz.prog 2 = some ([.int .i64 0], 1, 8) := by kernel_rfl
theorem in_62 : infoN Tryz.prog 62 = some ([.int .i64 0, .int .i64 0, .int .i64 0, .int .i64 0, .slice none 0 0, .slice none 0 0], 6, 80) := by kernel_rfl
theorem in_67 : infoN Tryz.prog 67 = some ([.string ByteArray.empty, .int .i64 0, .int .i64 0, .bool false], 4, 40) := by kernel_rfl
theorem in_9 : infoN Tryz.prog 9 = some ([.string ByteArray.empty], 1, 16) := by kernel_rfl
theorem in_94 : infoN Tryz.prog 94 = some ([.slice none 0 0, .slice none 0 0, .slice none 0 0], 3, 72) := by kernel_rfl
theorem pl_91 : placesN Tryz.prog 91 = some [(0, 1), (1, 1)] := by kernel_rfl
theorem zn_32 : zeroN Tryz.prog 32 = some [.string ByteArray.empty, .int .i64 0, .slice none 0 0, .slice none 0 0, .slice none 0 0, .int .i64 0, .int .i64 0] := by kernel_rfl
theorem zn_62 : zeroN Tryz.prog 62 = some [.int .i64 0, .int .i64 0, .int .i64 0, .int .i64 0, .slice none 0 0, .slice none 0 0] := by kernel_rfl
theorem zn_67 : zeroN Tryz.prog 67 = some [.string ByteArray.empty, .int .i64 0, .int .i64 0, .bool false] := by kernel_rfl
theorem zn_91 : zeroN Tryz.prog 91 = some [.int .i64 0, .int .i64 0] := by kernel_rfl
theorem zn_94 : zeroN Tryz.prog 94 = some [.slice none 0 0, .slice none 0 0, .slice none 0 0] := by kernel_rfl
-- loop.example/g00861/laws.szPin
def F_laws_szPin (n : Nat) (a0_a : S_Pin) (a1_left : Int) : Option Int := (bif decide (IntKind.wrap IntKind.i64 (a1_left - ((a0_a.Name.size : Int))) < 0) then (some (-1)) else (some (IntKind.wrap IntKind.i64 (a1_left - ((a0_a.Name.size : Int))))))
set_option maxHeartbeats 40000000 in
theorem W_laws_szPin {n : Nat} {a0_a : S_Pin} {a1_left : Int} {r : Int} {w : World} (hF : F_laws_szPin n a0_a a1_left = some r) :
    Calls Tryz.prog 24 [.agg #[.string a0_a.Name, .int .i64 a0_a.Dir, .int .i64 a0_a.Cap, .bool a0_a.Clock], .int .i64 a1_left].toArray w (Ret fun u w2 => u = .int .i64 r ∧ Ext w w2) := by
  refine calls_of Tryz.func24 rfl Tryz.ntmps24 ?_
  have he0 : Ext w w := Ext.refl w
  unfold F_laws_szPin at hF
  refine WC.seq ?_
  refine WC.region ?_
  refine TL.eff rfl rfl (eff_box rfl rfl) ?_
  rintro _ w2 ⟨b1, rfl, hn3⟩
  obtain ⟨hn3e, hn3s, hn3x, hb4⟩ := hn3
  have hb4 : Box w2 b1 [.string a0_a.Name, .int .i64 a0_a.Dir, .int .i64 a0_a.Cap, .bool a0_a.Clock] 51 := hb4
  have he6 : Ext w w2 := Ext.trans he0 hn3x
  have hz7 := (hn3x).size
  have hlo5 : w.heap.size ≤ b1 := by rw [hn3e]; exact (he0).size
  refine TL.yld rfl rfl (yld_assign rfl rfl) ?_
  refine TL.done ?_
  refine NX.seq ?_
  refine WC.seq ?_
  refine WC.region ?_
  refine TL.yld rfl rfl (yld_move rfl rfl) ?_
  refine TL.yld rfl rfl (yld_fieldAddr rfl fo_51_0 rfl) ?_
  refine TL.yld rfl rfl (yld_load1 0 rfl ag_9 rfl (Box.cells hb4) rfl rfl) ?_
  refine TL.yld rfl rfl (yld_lens rfl Tryz.underlying9 rfl) ?_
  refine TL.yld rfl rfl (yld_sub rfl rfl rfl) ?_
  refine TL.yld rfl rfl (yld_assign rfl rfl) ?_
  refine TL.done ?_
  refine NX.seq ?_
  refine WC.seq ?_
  refine WC.seq ?_
  refine WC.region ?_
  refine TL.yld rfl rfl (yld_move rfl rfl) ?_
  refine TL.yld rfl rfl (yld_lss rfl rfl rfl) ?_
  refine TL.done ?_
  refine NX.seq ?_
  refine WC.cond rfl ?_ ?_
  · intro hc8
    replace hF := bif_t hc8 hF
    refine WC.seq ?_
    refine WC.region ?_
    refine TL.yld rfl rfl (yld_assign rfl rfl) ?_
    refine TL.done ?_
    refine NX.seq ?_
    refine WC.ret' ?_
    refine NX.then_r ?_
    obtain rfl := Option.some.inj hF
    exact NX.end (rs := [.tmp 4]) (vs := [.int .i64 (-1)]) rfl ⟨rfl, trivial⟩ ⟨_, rfl, rfl, he6⟩
  · intro hc9
    replace hF := bif_f hc9 hF
    refine WC.skip' ?_
    refine NX.seq ?_
    refine WC.seq ?_
    refine WC.region ?_
    refine TL.yld rfl rfl (yld_move rfl rfl) ?_
    refine TL.yld rfl rfl (yld_assign rfl rfl) ?_
    refine TL.done ?_
    refine NX.seq ?_
    refine WC.ret' ?_
    obtain rfl := Option.some.inj hF
    exact NX.end (rs := [.tmp 4]) (vs := [.int .i64 (IntKind.wrap IntKind.i64 (a1_left - ((a0_a.Name.size : Int))))]) rfl ⟨rfl, trivial⟩ ⟨_, rfl, rfl, he6⟩

-- loop.example/g00861/laws.szPinS
def F_laws_szPinS_L1 (n : Nat) (a0_a : List S_Pin) (k0 : Int → Int → Option Int) : Nat → Int → Int → Option Int
  | 0 => fun _ _ => none
  | m + 1 => fun i7 i8 => (bif decide (i8 < (a0_a.length : Int)) then (Option.bind (getI a0_a i8) fun x10 => (Option.bind (F_laws_szPin n x10 i7) fun r18 => (bif decide (r18 < 0) then (some (-1)) else (F_laws_szPinS_L1 n a0_a k0 m r18 (IntKind.wrap IntKind.i64 (i8 + 1)))))) else (k0 i7 i8))
theorem F_laws_szPinS_L1_z (n : Nat) (a0_a : List S_Pin) (k0 : Int → Int → Option Int) (i7 : Int) (i8 : Int) : F_laws_szPinS_L1 n a0_a k0 0 i7 i8 = none := rfl
theorem F_laws_szPinS_L1_s (m : Nat) (n : Nat) (a0_a : List S_Pin) (k0 : Int → Int → Option Int) (i7 : Int) (i8 : Int) : F_laws_szPinS_L1 n a0_a k0 (m + 1) i7 i8 = (bif decide (i8 < (a0_a.length : Int)) then (Option.bind (getI a0_a i8) fun x10 => (Option.bind (F_laws_szPin n x10 i7) fun r18 => (bif decide (r18 < 0) then (some (-1)) else (F_laws_szPinS_L1 n a0_a k0 m r18 (IntKind.wrap IntKind.i64 (i8 + 1)))))) else (k0 i7 i8)) := rfl

def F_laws_szPinS (n : Nat) (a0_a : List S_Pin) (a1_left : Int) : Option Int := (bif decide (IntKind.wrap IntKind.i64 (a1_left - ((a0_a.length : Int))) < 0) then (some (-1)) else (F_laws_szPinS_L1 n a0_a (fun i7 i8 => (some i7)) n (IntKind.wrap IntKind.i64 (a1_left - ((a0_a.length : Int)))) 0))
set_option maxHeartbeats 40000000 in
theorem W_laws_szPinS {n : Nat} {a0_a : List S_Pin} {a1_left : Int} {r : Int} {w : World} {v1 : Value} (hF : F_laws_szPinS n a0_a a1_left = some r) (ha2 : slRep C_Pin w (Iv 0 w.heap.size) a0_a v1) :
    Calls Tryz.prog 9 [v1, .int .i64 a1_left].toArray w (Ret fun u w2 => u = .int .i64 r ∧ Ext w w2) := by
  refine calls_of Tryz.func9 rfl Tryz.ntmps9 ?_
  have he0 : Ext w w := Ext.refl w
  unfold F_laws_szPinS at hF
  refine WC.seq ?_
  refine WC.region ?_
  refine TL.yld rfl rfl (yld_assign rfl rfl) ?_
  refine TL.done ?_
  refine NX.seq ?_
  refine WC.seq ?_
  refine WC.region ?_
  refine TL.yld rfl rfl (yld_move rfl rfl) ?_
  refine TL.yld rfl rfl (yld_move rfl rfl) ?_
  refine TL.yld rfl rfl (ye_len (c := C_Pin) rfl Tryz.underlying22 rfl (slRep.old ha2 he0 (Nat.le_refl _))) ?_
  refine TL.yld rfl rfl (yld_sub rfl rfl rfl) ?_
  refine TL.yld rfl rfl (yld_assign rfl rfl) ?_
  refine TL.done ?_
  refine NX.seq ?_
  refine WC.seq ?_
  refine WC.seq ?_
  refine WC.region ?_
  refine TL.yld rfl rfl (yld_move rfl rfl) ?_
  refine TL.yld rfl rfl (yld_lss rfl rfl rfl) ?_
  refine TL.done ?_
  refine NX.seq ?_
  refine WC.cond rfl ?_ ?_
  · intro hc3
    replace hF := bif_t hc3 hF
    refine WC.seq ?_
    refine WC.region ?_
    refine TL.yld rfl rfl (yld_assign rfl rfl) ?_
    refine TL.done ?_
    refine NX.seq ?_
    refine WC.ret' ?_
    refine NX.then_r ?_
    obtain rfl := Option.some.inj hF
    exact NX.end (rs := [.tmp 4]) (vs := [.int .i64 (-1)]) rfl ⟨rfl, trivial⟩ ⟨_, rfl, rfl, he0⟩
  · intro hc4
    replace hF := bif_f hc4 hF
    refine WC.skip' ?_
    refine NX.seq ?_
    refine WC.seq ?_
    refine WC.seq ?_
    refine WC.region ?_
    refine TL.yld rfl rfl (yld_assign rfl rfl) ?_
    refine TL.done ?_
    refine NX.seq ?_
    refine WC.block ?_
    refine WC.loop (fun m9 a wl => ∃ (i7 : Int) (i8 : Int), Kn 27 [(0, v1), (1, .int .i64 i7), (5, .int .i64 i8)] a ∧ Ext w wl ∧ w.heap.size ≤ wl.heap.size ∧ F_laws_szPinS_L1 n a0_a (fun i7 i8 => (some i7)) m9 i7 i8 = some r) n ?_ ?_
    · intro a hK; exact ⟨(IntKind.wrap IntKind.i64 (a1_left - ((a0_a.length : Int)))), 0, hK.weaken ⟨rfl, rfl, rfl, trivial⟩, he0, Nat.le_refl _, hF⟩
    · rintro m9 a w5 ⟨i7, i8, hK, he6, hz10, hF⟩
      revert hK; revert a; refine (?_ : WC _ _ _ _ _ _)
      cases m9 with
      | zero => rw [F_laws_szPinS_L1_z] at hF; cases hF
      | succ m9 =>
        rw [F_laws_szPinS_L1_s] at hF
        refine WC.seq ?_
        refine WC.seq ?_
        refine WC.region ?_
        refine TL.yld rfl rfl (yld_move rfl rfl) ?_
        refine TL.yld rfl rfl (yld_move rfl rfl) ?_
        refine TL.yld rfl rfl (ye_len (c := C_Pin) rfl Tryz.underlying22 rfl (slRep.old ha2 he6 (Nat.le_refl _))) ?_
        refine TL.yld rfl rfl (yld_lss rfl rfl rfl) ?_
        refine TL.done ?_
        refine NX.seq ?_
        refine WC.cond rfl ?_ ?_
        · intro hc11
          replace hF := bif_t hc11 hF
          refine WC.skip' ?_
          refine NX.seq ?_
          refine WC.seq ?_
          refine WC.block ?_
          refine WC.seq ?_
          refine WC.region ?_
          refine TL.yld rfl rfl (yld_move rfl rfl) ?_
          refine TL.yld rfl rfl (yld_move rfl rfl) ?_
          obtain ⟨x12, hy13, hF⟩ := bsome hF
          refine TL.ye rfl rfl (ye_index (c := C_Pin) rfl Tryz.underlying22 cn_51 rfl rfl (slRep.old ha2 he6 (Nat.le_refl _)) hy13) ?_
          rintro _ ⟨b14, o15, us16, rfl, hib19, hr17, hcl18⟩
          have hib19 : 0 ≤ b14 ∧ b14 < w.heap.size := ⟨hib19.1, by have := hib19.2; omega⟩
          obtain rfl := C_Pin_open hr17
          refine TL.yld rfl rfl (yld_loadN (us := [.string x12.Name, .int .i64 x12.Dir, .int .i64 x12.Cap, .bool x12.Clock]) rfl ag_51 rfl hcl18 cn_51) ?_
          refine TL.yld rfl rfl (yld_move rfl rfl) ?_
          obtain ⟨r20, hr21, hF⟩ := bsome hF
          refine TL.eff rfl rfl (eff_call rfl gf_24 rfl (W_laws_szPin hr21)) ?_
          rintro _ w22 ⟨rfl, hx23⟩
          have he24 : Ext w w22 := Ext.trans he6 hx23
          have hz25 := (hx23).size
          refine TL.yld rfl rfl (yld_assign rfl rfl) ?_
          refine TL.done ?_
          refine NX.seq ?_
          refine WC.seq ?_
          refine WC.region ?_
          refine TL.yld rfl rfl (yld_move rfl rfl) ?_
          refine TL.yld rfl rfl (yld_lss rfl rfl rfl) ?_
          refine TL.done ?_
          refine NX.seq ?_
          refine WC.cond rfl ?_ ?_
          · intro hc26
            replace hF := bif_t hc26 hF
            refine WC.seq ?_
            refine WC.region ?_
            refine TL.yld rfl rfl (yld_assign rfl rfl) ?_
            refine TL.done ?_
            refine NX.seq ?_
            refine WC.ret' ?_
            refine NX.blk_r ?_
            refine NX.then_r ?_
            refine NX.then_r ?_
            refine NX.blk_r ?_
            refine NX.then_r ?_
            obtain rfl := Option.some.inj hF
            exact NX.end (rs := [.tmp 4]) (vs := [.int .i64 (-1)]) rfl ⟨rfl, trivial⟩ ⟨_, rfl, rfl, he24⟩
          · intro hc27
            replace hF := bif_f hc27 hF
            refine WC.skip' ?_
            refine NX.blk_n ?_
            refine NX.seq ?_
            refine WC.region ?_
            refine TL.yld rfl rfl (yld_move rfl rfl) ?_
            refine TL.yld rfl rfl (yld_add rfl rfl rfl) ?_
            refine TL.yld rfl rfl (yld_assign rfl rfl) ?_
            refine TL.done ?_
            refine NX.then_n ?_
            intro a hK; exact ⟨m9, Nat.lt_succ_self m9, r20, (IntKind.wrap IntKind.i64 (i8 + 1)), hK.weaken ⟨rfl, rfl, rfl, trivial⟩, he24, (by omega), hF⟩
        · intro hc28
          replace hF := bif_f hc28 hF
          refine WC.exit' ?_
          refine NX.then_e ?_
          refine NX.then_e ?_
          refine NX.blk_hit ?_
          refine NX.seq ?_
          refine WC.seq ?_
          refine WC.region ?_
          refine TL.yld rfl rfl (yld_move rfl rfl) ?_
          refine TL.yld rfl rfl (yld_assign rfl rfl) ?_
          refine TL.done ?_
          refine NX.seq ?_
          refine WC.ret' ?_
          obtain rfl := Option.some.inj hF
          exact NX.end (rs := [.tmp 4]) (vs := [.int .i64 i7]) rfl ⟨rfl, trivial⟩ ⟨_, rfl, rfl, he6⟩

-- loop.example/g00861/laws.szInt64S
def F_laws_szInt64S (n : Nat) (a0_a : List Int) (a1_left : Int) : Option Int := (bif decide (IntKind.wrap IntKind.i64 (a1_left - ((a0_a.length : Int))) < 0) then (some (-1)) else (some (IntKind.wrap IntKind.i64 (a1_left - ((a0_a.length : Int))))))
set_option maxHeartbeats 40000000 in
theorem W_laws_szInt64S {n : Nat} {a0_a : List Int} {a1_left : Int} {r : Int} {w : World} {v1 : Value} (hF : F_laws_szInt64S n a0_a a1_left = some r) (ha2 : slRep (cInt .i64) w (Iv 0 w.heap.size) a0_a v1) :
    Calls Tryz.prog 11 [v1, .int .i64 a1_left].toArray w (Ret fun u w2 => u = .int .i64 r ∧ Ext w w2) := by
  refine calls_of Tryz.func11 rfl Tryz.ntmps11 ?_
  have he0 : Ext w w := Ext.refl w
  unfold F_laws_szInt64S at hF
  refine WC.seq ?_
  refine WC.region ?_
  refine TL.yld rfl rfl (yld_assign rfl rfl) ?_
  refine TL.done ?_
  refine NX.seq ?_
  refine WC.seq ?_
  refine WC.region ?_
  refine TL.yld rfl rfl (yld_move rfl rfl) ?_
  refine TL.yld rfl rfl (yld_move rfl rfl) ?_
  refine TL.yld rfl rfl (ye_len (c := (cInt .i64)) rfl Tryz.underlying24 rfl (slRep.old ha2 he0 (Nat.le_refl _))) ?_
  refine TL.yld rfl rfl (yld_sub rfl rfl rfl) ?_
  refine TL.yld rfl rfl (yld_assign rfl rfl) ?_
  refine TL.done ?_
  refine NX.seq ?_
  refine WC.seq ?_
  refine WC.seq ?_
  refine WC.region ?_
  refine TL.yld rfl rfl (yld_move rfl rfl) ?_
  refine TL.yld rfl rfl (yld_lss rfl rfl rfl) ?_
  refine TL.done ?_
  refine NX.seq ?_
  refine WC.cond rfl ?_ ?_
  · intro hc3
    replace hF := bif_t hc3 hF
    refine WC.seq ?_
    refine WC.region ?_
    refine TL.yld rfl rfl (yld_assign rfl rfl) ?_
    refine TL.done ?_
    refine NX.seq ?_
    refine WC.ret' ?_
    refine NX.then_r ?_
    obtain rfl := Option.some.inj hF
    exact NX.end (rs := [.tmp 4]) (vs := [.int .i64 (-1)]) rfl ⟨rfl, trivial⟩ ⟨_, rfl, rfl, he0⟩
  · intro hc4
    replace hF := bif_f hc4 hF
    refine WC.skip' ?_
    refine NX.seq ?_
    refine WC.seq ?_
    refine WC.region ?_
    refine TL.yld rfl rfl (yld_move rfl rfl) ?_
    refine TL.yld rfl rfl (yld_assign rfl rfl) ?_
    refine TL.done ?_
    refine NX.seq ?_
    refine WC.ret' ?_
    obtain rfl := Option.some.inj hF
    exact NX.end (rs := [.tmp 4]) (vs := [.int .i64 (IntKind.wrap IntKind.i64 (a1_left - ((a0_a.length : Int))))]) rfl ⟨rfl, trivial⟩ ⟨_, rfl, rfl, he0⟩

-- loop.example/g00861/laws.szTable
def F_laws_szTable (n : Nat) (a0_a : S_Table) (a1_left : Int) : Option Int := (Option.bind (F_laws_szInt64S n a0_a.Slews a1_left) fun r14 => (bif decide (r14 < 0) then (some (-1)) else (Option.bind (F_laws_szInt64S n a0_a.Loads r14) fun r22 => (bif decide (r22 < 0) then (some (-1)) else (Option.bind (F_laws_szInt64S n a0_a.Values r22) fun r30 => (bif decide (r30 < 0) then (some (-1)) else (some r30)))))))
set_option maxHeartbeats 40000000 in
theorem W_laws_szTable {n : Nat} {a0_a : S_Table} {a1_left : Int} {r : Int} {w : World} {v1 : Value} {v3 : Value} {v5 : Value} (hF : F_laws_szTable n a0_a a1_left = some r) (ha2 : slRep (cInt .i64) w (Iv 0 w.heap.size) a0_a.Slews v1) (ha4 : slRep (cInt .i64) w (Iv 0 w.heap.size) a0_a.Loads v3) (ha6 : slRep (cInt .i64) w (Iv 0 w.heap.size) a0_a.Values v5) :
    Calls Tryz.prog 56 [.agg #[v1, v3, v5], .int .i64 a1_left].toArray w (Ret fun u w2 => u = .int .i64 r ∧ Ext w w2) := by
  refine calls_of Tryz.func56 rfl Tryz.ntmps56 ?_
  have he0 : Ext w w := Ext.refl w
  unfold F_laws_szTable at hF
  refine WC.seq ?_
  refine WC.region ?_
  refine TL.eff rfl rfl (eff_box rfl rfl) ?_
  rintro _ w8 ⟨b7, rfl, hn9⟩
  obtain ⟨hn9e, hn9s, hn9x, hb10⟩ := hn9
  have hb10 : Box w8 b7 [v1, v3, v5] 89 := hb10
  have he12 : Ext w w8 := Ext.trans he0 hn9x
  have hz13 := (hn9x).size
  have hlo11 : w.heap.size ≤ b7 := by rw [hn9e]; exact (he0).size
  refine TL.yld rfl rfl (yld_assign rfl rfl) ?_
  refine TL.done ?_
  refine NX.seq ?_
  refine WC.seq ?_
  refine WC.region ?_
  refine TL.yld rfl rfl (yld_fieldAddr rfl fo_89_0 rfl) ?_
  refine TL.yld rfl rfl (yld_load1 0 rfl ag_24 rfl (Box.cells hb10) rfl rfl) ?_
  refine TL.yld rfl rfl (yld_move rfl rfl) ?_
  obtain ⟨r14, hr15, hF⟩ := bsome hF
  refine TL.eff rfl rfl (eff_call rfl gf_11 rfl (W_laws_szInt64S hr15 ((slRep.old ha2 he12 (Nat.le_refl _)).wide (Nat.le_refl _) (he12).size))) ?_
  rintro _ w16 ⟨rfl, hx17⟩
  have he18 : Ext w w16 := Ext.trans he12 hx17
  have hb10 := Box.ext hb10 hx17
  have hz19 := (hx17).size
  refine TL.yld rfl rfl (yld_assign rfl rfl) ?_
  refine TL.done ?_
  refine NX.seq ?_
  refine WC.seq ?_
  refine WC.seq ?_
  refine WC.region ?_
  refine TL.yld rfl rfl (yld_move rfl rfl) ?_
  refine TL.yld rfl rfl (yld_lss rfl rfl rfl) ?_
  refine TL.done ?_
  refine NX.seq ?_
  refine WC.cond rfl ?_ ?_
  · intro hc20
    replace hF := bif_t hc20 hF
    refine WC.seq ?_
    refine WC.region ?_
    refine TL.yld rfl rfl (yld_assign rfl rfl) ?_
    refine TL.done ?_
    refine NX.seq ?_
    refine WC.ret' ?_
    refine NX.then_r ?_
    obtain rfl := Option.some.inj hF
    exact NX.end (rs := [.tmp 4]) (vs := [.int .i64 (-1)]) rfl ⟨rfl, trivial⟩ ⟨_, rfl, rfl, he18⟩
  · intro hc21
    replace hF := bif_f hc21 hF
    refine WC.skip' ?_
    refine NX.seq ?_
    refine WC.seq ?_
    refine WC.region ?_
    refine TL.yld rfl rfl (yld_fieldAddr rfl fo_89_1 rfl) ?_
    refine TL.yld rfl rfl (yld_load1 1 rfl ag_24 rfl (Box.cells hb10) rfl rfl) ?_
    refine TL.yld rfl rfl (yld_move rfl rfl) ?_
    obtain ⟨r22, hr23, hF⟩ := bsome hF
    refine TL.eff rfl rfl (eff_call rfl gf_11 rfl (W_laws_szInt64S hr23 ((slRep.old ha4 he18 (Nat.le_refl _)).wide (Nat.le_refl _) (he18).size))) ?_
    rintro _ w24 ⟨rfl, hx25⟩
    have he26 : Ext w w24 := Ext.trans he18 hx25
    have hb10 := Box.ext hb10 hx25
    have hz27 := (hx25).size
    refine TL.yld rfl rfl (yld_assign rfl rfl) ?_
    refine TL.done ?_
    refine NX.seq ?_
    refine WC.seq ?_
    refine WC.seq ?_
    refine WC.region ?_
    refine TL.yld rfl rfl (yld_move rfl rfl) ?_
    refine TL.yld rfl rfl (yld_lss rfl rfl rfl) ?_
    refine TL.done ?_
    refine NX.seq ?_
    refine WC.cond rfl ?_ ?_
    · intro hc28
      replace hF := bif_t hc28 hF
      refine WC.seq ?_
      refine WC.region ?_
      refine TL.yld rfl rfl (yld_assign rfl rfl) ?_
      refine TL.done ?_
      refine NX.seq ?_
      refine WC.ret' ?_
      refine NX.then_r ?_
      obtain rfl := Option.some.inj hF
      exact NX.end (rs := [.tmp 4]) (vs := [.int .i64 (-1)]) rfl ⟨rfl, trivial⟩ ⟨_, rfl, rfl, he26⟩
    · intro hc29
      replace hF := bif_f hc29 hF
      refine WC.skip' ?_
      refine NX.seq ?_
      refine WC.seq ?_
      refine WC.region ?_
      refine TL.yld rfl rfl (yld_fieldAddr rfl fo_89_2 rfl) ?_
      refine TL.yld rfl rfl (yld_load1 2 rfl ag_24 rfl (Box.cells hb10) rfl rfl) ?_
      refine TL.yld rfl rfl (yld_move rfl rfl) ?_
      obtain ⟨r30, hr31, hF⟩ := bsome hF
      refine TL.eff rfl rfl (eff_call rfl gf_11 rfl (W_laws_szInt64S hr31 ((slRep.old ha6 he26 (Nat.le_refl _)).wide (Nat.le_refl _) (he26).size))) ?_
      rintro _ w32 ⟨rfl, hx33⟩
      have he34 : Ext w w32 := Ext.trans he26 hx33
      have hz35 := (hx33).size
      refine TL.yld rfl rfl (yld_assign rfl rfl) ?_
      refine TL.done ?_
      refine NX.seq ?_
      refine WC.seq ?_
      refine WC.seq ?_
      refine WC.region ?_
      refine TL.yld rfl rfl (yld_move rfl rfl) ?_
      refine TL.yld rfl rfl (yld_lss rfl rfl rfl) ?_
      refine TL.done ?_
      refine NX.seq ?_
      refine WC.cond rfl ?_ ?_
      · intro hc36
        replace hF := bif_t hc36 hF
        refine WC.seq ?_
        refine WC.region ?_
        refine TL.yld rfl rfl (yld_assign rfl rfl) ?_
        refine TL.done ?_
        refine NX.seq ?_
        refine WC.ret' ?_
        refine NX.then_r ?_
        obtain rfl := Option.some.inj hF
        exact NX.end (rs := [.tmp 4]) (vs := [.int .i64 (-1)]) rfl ⟨rfl, trivial⟩ ⟨_, rfl, rfl, he34⟩
      · intro hc37
        replace hF := bif_f hc37 hF
        refine WC.skip' ?_
        refine NX.seq ?_
        refine WC.seq ?_
        refine WC.region ?_
        refine TL.yld rfl rfl (yld_move rfl rfl) ?_
        refine TL.yld rfl rfl (yld_assign rfl rfl) ?_
        refine TL.done ?_
        refine NX.seq ?_
        refine WC.ret' ?_
        obtain rfl := Option.some.inj hF
        exact NX.end (rs := [.tmp 4]) (vs := [.int .i64 r30]) rfl ⟨rfl, trivial⟩ ⟨_, rfl, rfl, he34⟩

-- loop.example/g00861/laws.szTableS
def F_laws_szTableS_L1 (n : Nat) (a0_a : List S_Table) (k0 : Int → Int → Option Int) : Nat → Int → Int → Option Int
  | 0 => fun _ _ => none
  | m + 1 => fun i7 i8 => (bif decide (i8 < (a0_a.length : Int)) then (Option.bind (getI a0_a i8) fun x10 => (Option.bind (F_laws_szTable n x10 i7) fun r24 => (bif decide (r24 < 0) then (some (-1)) else (F_laws_szTableS_L1 n a0_a k0 m r24 (IntKind.wrap IntKind.i64 (i8 + 1)))))) else (k0 i7 i8))
theorem F_laws_szTableS_L1_z (n : Nat) (a0_a : List S_Table) (k0 : Int → Int → Option Int) (i7 : Int) (i8 : Int) : F_laws_szTableS_L1 n a0_a k0 0 i7 i8 = none := rfl
theorem F_laws_szTableS_L1_s (m : Nat) (n : Nat) (a0_a : List S_Table) (k0 : Int → Int → Option Int) (i7 : Int) (i8 : Int) : F_laws_szTableS_L1 n a0_a k0 (m + 1) i7 i8 = (bif decide (i8 < (a0_a.length : Int)) then (Option.bind (getI a0_a i8) fun x10 => (Option.bind (F_laws_szTable n x10 i7) fun r24 => (bif decide (r24 < 0) then (some (-1)) else (F_laws_szTableS_L1 n a0_a k0 m r24 (IntKind.wrap IntKind.i64 (i8 + 1)))))) else (k0 i7 i8)) := rfl

def F_laws_szTableS (n : Nat) (a0_a : List S_Table) (a1_left : Int) : Option Int := (bif decide (IntKind.wrap IntKind.i64 (a1_left - ((a0_a.length : Int))) < 0) then (some (-1)) else (F_laws_szTableS_L1 n a0_a (fun i7 i8 => (some i7)) n (IntKind.wrap IntKind.i64 (a1_left - ((a0_a.length : Int)))) 0))
set_option maxHeartbeats 40000000 in
theorem W_laws_szTableS {n : Nat} {a0_a : List S_Table} {a1_left : Int} {r : Int} {w : World} {v1 : Value} (hF : F_laws_szTableS n a0_a a1_left = some r) (ha2 : slRep C_Table w (Iv 0 w.heap.size) a0_a v1) :
    Calls Tryz.prog 43 [v1, .int .i64 a1_left].toArray w (Ret fun u w2 => u = .int .i64 r ∧ Ext w w2) := by
  refine calls_of Tryz.func43 rfl Tryz.ntmps43 ?_
  have he0 : Ext w w := Ext.refl w
  unfold F_laws_szTableS at hF
  refine WC.seq ?_
  refine WC.region ?_
  refine TL.yld rfl rfl (yld_assign rfl rfl) ?_
  refine TL.done ?_
  refine NX.seq ?_
  refine WC.seq ?_
  refine WC.region ?_
  refine TL.yld rfl rfl (yld_move rfl rfl) ?_
  refine TL.yld rfl rfl (yld_move rfl rfl) ?_
  refine TL.yld rfl rfl (ye_len (c := C_Table) rfl Tryz.underlying53 rfl (slRep.old ha2 he0 (Nat.le_refl _))) ?_
  refine TL.yld rfl rfl (yld_sub rfl rfl rfl) ?_
  refine TL.yld rfl rfl (yld_assign rfl rfl) ?_
  refine TL.done ?_
  refine NX.seq ?_
  refine WC.seq ?_
  refine WC.seq ?_
  refine WC.region ?_
  refine TL.yld rfl rfl (yld_move rfl rfl) ?_
  refine TL.yld rfl rfl (yld_lss rfl rfl rfl) ?_
  refine TL.done ?_
  refine NX.seq ?_
  refine WC.cond rfl ?_ ?_
  · intro hc3
    replace hF := bif_t hc3 hF
    refine WC.seq ?_
    refine WC.region ?_
    refine TL.yld rfl rfl (yld_assign rfl rfl) ?_
    refine TL.done ?_
    refine NX.seq ?_
    refine WC.ret' ?_
    refine NX.then_r ?_
    obtain rfl := Option.some.inj hF
    exact NX.end (rs := [.tmp 4]) (vs := [.int .i64 (-1)]) rfl ⟨rfl, trivial⟩ ⟨_, rfl, rfl, he0⟩
  · intro hc4
    replace hF := bif_f hc4 hF
    refine WC.skip' ?_
    refine NX.seq ?_
    refine WC.seq ?_
    refine WC.seq ?_
    refine WC.region ?_
    refine TL.yld rfl rfl (yld_assign rfl rfl) ?_
    refine TL.done ?_
    refine NX.seq ?_
    refine WC.block ?_
    refine WC.loop (fun m9 a wl => ∃ (i7 : Int) (i8 : Int), Kn 27 [(0, v1), (1, .int .i64 i7), (5, .int .i64 i8)] a ∧ Ext w wl ∧ w.heap.size ≤ wl.heap.size ∧ F_laws_szTableS_L1 n a0_a (fun i7 i8 => (some i7)) m9 i7 i8 = some r) n ?_ ?_
    · intro a hK; exact ⟨(IntKind.wrap IntKind.i64 (a1_left - ((a0_a.length : Int)))), 0, hK.weaken ⟨rfl, rfl, rfl, trivial⟩, he0, Nat.le_refl _, hF⟩
    · rintro m9 a w5 ⟨i7, i8, hK, he6, hz10, hF⟩
      revert hK; revert a; refine (?_ : WC _ _ _ _ _ _)
      cases m9 with
      | zero => rw [F_laws_szTableS_L1_z] at hF; cases hF
      | succ m9 =>
        rw [F_laws_szTableS_L1_s] at hF
        refine WC.seq ?_
        refine WC.seq ?_
        refine WC.region ?_
        refine TL.yld rfl rfl (yld_move rfl rfl) ?_
        refine TL.yld rfl rfl (yld_move rfl rfl) ?_
        refine TL.yld rfl rfl (ye_len (c := C_Table) rfl Tryz.underlying53 rfl (slRep.old ha2 he6 (Nat.le_refl _))) ?_
        refine TL.yld rfl rfl (yld_lss rfl rfl rfl) ?_
        refine TL.done ?_
        refine NX.seq ?_
        refine WC.cond rfl ?_ ?_
        · intro hc11
          replace hF := bif_t hc11 hF
          refine WC.skip' ?_
          refine NX.seq ?_
          refine WC.seq ?_
          refine WC.block ?_
          refine WC.seq ?_
          refine WC.region ?_
          refine TL.yld rfl rfl (yld_move rfl rfl) ?_
          refine TL.yld rfl rfl (yld_move rfl rfl) ?_
          obtain ⟨x12, hy13, hF⟩ := bsome hF
          refine TL.ye rfl rfl (ye_index (c := C_Table) rfl Tryz.underlying53 cn_89 rfl rfl (slRep.old ha2 he6 (Nat.le_refl _)) hy13) ?_
          rintro _ ⟨b14, o15, us16, rfl, hib19, hr17, hcl18⟩
          have hib19 : 0 ≤ b14 ∧ b14 < w.heap.size := ⟨hib19.1, by have := hib19.2; omega⟩
          obtain ⟨v20, v21, v22, rfl, hs23, hs24, hs25⟩ := C_Table_open hr17
          refine TL.yld rfl rfl (yld_loadN (us := [v20, v21, v22]) rfl ag_89 rfl hcl18 cn_89) ?_
          refine TL.yld rfl rfl (yld_move rfl rfl) ?_
          obtain ⟨r26, hr27, hF⟩ := bsome hF
          refine TL.eff rfl rfl (eff_call rfl gf_56 rfl (W_laws_szTable hr27 (hs23.wide (Nat.zero_le _) (by omega)) (hs24.wide (Nat.zero_le _) (by omega)) (hs25.wide (Nat.zero_le _) (by omega)))) ?_
          rintro _ w28 ⟨rfl, hx29⟩
          have he30 : Ext w w28 := Ext.trans he6 hx29
          have hz31 := (hx29).size
          refine TL.yld rfl rfl (yld_assign rfl rfl) ?_
          refine TL.done ?_
          refine NX.seq ?_
          refine WC.seq ?_
          refine WC.region ?_
          refine TL.yld rfl rfl (yld_move rfl rfl) ?_
          refine TL.yld rfl rfl (yld_lss rfl rfl rfl) ?_
          refine TL.done ?_
          refine NX.seq ?_
          refine WC.cond rfl ?_ ?_
          · intro hc32
            replace hF := bif_t hc32 hF
            refine WC.seq ?_
            refine WC.region ?_
            refine TL.yld rfl rfl (yld_assign rfl rfl) ?_
            refine TL.done ?_
            refine NX.seq ?_
            refine WC.ret' ?_
            refine NX.blk_r ?_
            refine NX.then_r ?_
            refine NX.then_r ?_
            refine NX.blk_r ?_
            refine NX.then_r ?_
            obtain rfl := Option.some.inj hF
            exact NX.end (rs := [.tmp 4]) (vs := [.int .i64 (-1)]) rfl ⟨rfl, trivial⟩ ⟨_, rfl, rfl, he30⟩
          · intro hc33
            replace hF := bif_f hc33 hF
            refine WC.skip' ?_
            refine NX.blk_n ?_
            refine NX.seq ?_
            refine WC.region ?_
            refine TL.yld rfl rfl (yld_move rfl rfl) ?_
            refine TL.yld rfl rfl (yld_add rfl rfl rfl) ?_
            refine TL.yld rfl rfl (yld_assign rfl rfl) ?_
            refine TL.done ?_
            refine NX.then_n ?_
            intro a hK; exact ⟨m9, Nat.lt_succ_self m9, r26, (IntKind.wrap IntKind.i64 (i8 + 1)), hK.weaken ⟨rfl, rfl, rfl, trivial⟩, he30, (by omega), hF⟩
        · intro hc34
          replace hF := bif_f hc34 hF
          refine WC.exit' ?_
          refine NX.then_e ?_
          refine NX.then_e ?_
          refine NX.blk_hit ?_
          refine NX.seq ?_
          refine WC.seq ?_
          refine WC.region ?_
          refine TL.yld rfl rfl (yld_move rfl rfl) ?_
          refine TL.yld rfl rfl (yld_assign rfl rfl) ?_
          refine TL.done ?_
          refine NX.seq ?_
          refine WC.ret' ?_
          obtain rfl := Option.some.inj hF
          exact NX.end (rs := [.tmp 4]) (vs := [.int .i64 i7]) rfl ⟨rfl, trivial⟩ ⟨_, rfl, rfl, he6⟩

-- loop.example/g00861/laws.szArc
def F_laws_szArc (n : Nat) (a0_a : S_Arc) (a1_left : Int) : Option Int := (Option.bind (F_laws_szTableS n a0_a.Delay a1_left) fun r12 => (bif decide (r12 < 0) then (some (-1)) else (Option.bind (F_laws_szTableS n a0_a.Slew r12) fun r20 => (bif decide (r20 < 0) then (some (-1)) else (some r20)))))
set_option maxHeartbeats 40000000 in
theorem W_laws_szArc {n : Nat} {a0_a : S_Arc} {a1_left : Int} {r : Int} {w : World} {v1 : Value} {v3 : Value} (hF : F_laws_szArc n a0_a a1_left = some r) (ha2 : slRep C_Table w (Iv 0 w.heap.size) a0_a.Delay v1) (ha4 : slRep C_Table w (Iv 0 w.heap.size) a0_a.Slew v3) :
    Calls Tryz.prog 25 [.agg #[.int .i64 a0_a.Kind, .int .i64 a0_a.From, .int .i64 a0_a.To, .int .i64 a0_a.Sense, v1, v3], .int .i64 a1_left].toArray w (Ret fun u w2 => u = .int .i64 r ∧ Ext w w2) := by
  refine calls_of Tryz.func25 rfl Tryz.ntmps25 ?_
  have he0 : Ext w w := Ext.refl w
  unfold F_laws_szArc at hF
  refine WC.seq ?_
  refine WC.region ?_
  refine TL.eff rfl rfl (eff_box rfl rfl) ?_
  rintro _ w6 ⟨b5, rfl, hn7⟩
  obtain ⟨hn7e, hn7s, hn7x, hb8⟩ := hn7
  have hb8 : Box w6 b5 [.int .i64 a0_a.Kind, .int .i64 a0_a.From, .int .i64 a0_a.To, .int .i64 a0_a.Sense, v1, v3] 55 := hb8
  have he10 : Ext w w6 := Ext.trans he0 hn7x
  have hz11 := (hn7x).size
  have hlo9 : w.heap.size ≤ b5 := by rw [hn7e]; exact (he0).size
  refine TL.yld rfl rfl (yld_assign rfl rfl) ?_
  refine TL.done ?_
  refine NX.seq ?_
  refine WC.seq ?_
  refine WC.region ?_
  refine TL.yld rfl rfl (yld_fieldAddr rfl fo_55_4 rfl) ?_
  refine TL.yld rfl rfl (yld_load1 4 rfl ag_53 rfl (Box.cells hb8) rfl rfl) ?_
  refine TL.yld rfl rfl (yld_move rfl rfl) ?_
  obtain ⟨r12, hr13, hF⟩ := bsome hF
  refine TL.eff rfl rfl (eff_call rfl gf_43 rfl (W_laws_szTableS hr13 ((slRep.old ha2 he10 (Nat.le_refl _)).wide (Nat.le_refl _) (he10).size))) ?_
  rintro _ w14 ⟨rfl, hx15⟩
  have he16 : Ext w w14 := Ext.trans he10 hx15
  have hb8 := Box.ext hb8 hx15
  have hz17 := (hx15).size
  refine TL.yld rfl rfl (yld_assign rfl rfl) ?_
  refine TL.done ?_
  refine NX.seq ?_
  refine WC.seq ?_
  refine WC.seq ?_
  refine WC.region ?_
  refine TL.yld rfl rfl (yld_move rfl rfl) ?_
  refine TL.yld rfl rfl (yld_lss rfl rfl rfl) ?_
  refine TL.done ?_
  refine NX.seq ?_
  refine WC.cond rfl ?_ ?_
  · intro hc18
    replace hF := bif_t hc18 hF
    refine WC.seq ?_
    refine WC.region ?_
    refine TL.yld rfl rfl (yld_assign rfl rfl) ?_
    refine TL.done ?_
    refine NX.seq ?_
    refine WC.ret' ?_
    refine NX.then_r ?_
    obtain rfl := Option.some.inj hF
    exact NX.end (rs := [.tmp 4]) (vs := [.int .i64 (-1)]) rfl ⟨rfl, trivial⟩ ⟨_, rfl, rfl, he16⟩
  · intro hc19
    replace hF := bif_f hc19 hF
    refine WC.skip' ?_
    refine NX.seq ?_
    refine WC.seq ?_
    refine WC.region ?_
    refine TL.yld rfl rfl (yld_fieldAddr rfl fo_55_5 rfl) ?_
    refine TL.yld rfl rfl (yld_load1 5 rfl ag_53 rfl (Box.cells hb8) rfl rfl) ?_
    refine TL.yld rfl rfl (yld_move rfl rfl) ?_
    obtain ⟨r20, hr21, hF⟩ := bsome hF
    refine TL.eff rfl rfl (eff_call rfl gf_43 rfl (W_laws_szTableS hr21 ((slRep.old ha4 he16 (Nat.le_refl _)).wide (Nat.le_refl _) (he16).size))) ?_
    rintro _ w22 ⟨rfl, hx23⟩
    have he24 : Ext w w22 := Ext.trans he16 hx23
    have hz25 := (hx23).size
    refine TL.yld rfl rfl (yld_assign rfl rfl) ?_
    refine TL.done ?_
    refine NX.seq ?_
    refine WC.seq ?_
    refine WC.seq ?_
    refine WC.region ?_
    refine TL.yld rfl rfl (yld_move rfl rfl) ?_
    refine TL.yld rfl rfl (yld_lss rfl rfl rfl) ?_
    refine TL.done ?_
    refine NX.seq ?_
    refine WC.cond rfl ?_ ?_
    · intro hc26
      replace hF := bif_t hc26 hF
      refine WC.seq ?_
      refine WC.region ?_
      refine TL.yld rfl rfl (yld_assign rfl rfl) ?_
      refine TL.done ?_
      refine NX.seq ?_
      refine WC.ret' ?_
      refine NX.then_r ?_
      obtain rfl := Option.some.inj hF
      exact NX.end (rs := [.tmp 4]) (vs := [.int .i64 (-1)]) rfl ⟨rfl, trivial⟩ ⟨_, rfl, rfl, he24⟩
    · intro hc27
      replace hF := bif_f hc27 hF
      refine WC.skip' ?_
      refine NX.seq ?_
      refine WC.seq ?_
      refine WC.region ?_
      refine TL.yld rfl rfl (yld_move rfl rfl) ?_
      refine TL.yld rfl rfl (yld_assign rfl rfl) ?_
      refine TL.done ?_
      refine NX.seq ?_
      refine WC.ret' ?_
      obtain rfl := Option.some.inj hF
      exact NX.end (rs := [.tmp 4]) (vs := [.int .i64 r20]) rfl ⟨rfl, trivial⟩ ⟨_, rfl, rfl, he24⟩

-- loop.example/g00861/laws.szArcS
def F_laws_szArcS_L1 (n : Nat) (a0_a : List S_Arc) (k0 : Int → Int → Option Int) : Nat → Int → Int → Option Int
  | 0 => fun _ _ => none
  | m + 1 => fun i7 i8 => (bif decide (i8 < (a0_a.length : Int)) then (Option.bind (getI a0_a i8) fun x10 => (Option.bind (F_laws_szArc n x10 i7) fun r22 => (bif decide (r22 < 0) then (some (-1)) else (F_laws_szArcS_L1 n a0_a k0 m r22 (IntKind.wrap IntKind.i64 (i8 + 1)))))) else (k0 i7 i8))
theorem F_laws_szArcS_L1_z (n : Nat) (a0_a : List S_Arc) (k0 : Int → Int → Option Int) (i7 : Int) (i8 : Int) : F_laws_szArcS_L1 n a0_a k0 0 i7 i8 = none := rfl
theorem F_laws_szArcS_L1_s (m : Nat) (n : Nat) (a0_a : List S_Arc) (k0 : Int → Int → Option Int) (i7 : Int) (i8 : Int) : F_laws_szArcS_L1 n a0_a k0 (m + 1) i7 i8 = (bif decide (i8 < (a0_a.length : Int)) then (Option.bind (getI a0_a i8) fun x10 => (Option.bind (F_laws_szArc n x10 i7) fun r22 => (bif decide (r22 < 0) then (some (-1)) else (F_laws_szArcS_L1 n a0_a k0 m r22 (IntKind.wrap IntKind.i64 (i8 + 1)))))) else (k0 i7 i8)) := rfl

def F_laws_szArcS (n : Nat) (a0_a : List S_Arc) (a1_left : Int) : Option Int := (bif decide (IntKind.wrap IntKind.i64 (a1_left - ((a0_a.length : Int))) < 0) then (some (-1)) else (F_laws_szArcS_L1 n a0_a (fun i7 i8 => (some i7)) n (IntKind.wrap IntKind.i64 (a1_left - ((a0_a.length : Int)))) 0))
set_option maxHeartbeats 40000000 in
theorem W_laws_szArcS {n : Nat} {a0_a : List S_Arc} {a1_left : Int} {r : Int} {w : World} {v1 : Value} (hF : F_laws_szArcS n a0_a a1_left = some r) (ha2 : slRep C_Arc w (Iv 0 w.heap.size) a0_a v1) :
    Calls Tryz.prog 10 [v1, .int .i64 a1_left].toArray w (Ret fun u w2 => u = .int .i64 r ∧ Ext w w2) := by
  refine calls_of Tryz.func10 rfl Tryz.ntmps10 ?_
  have he0 : Ext w w := Ext.refl w
  unfold F_laws_szArcS at hF
  refine WC.seq ?_
  refine WC.region ?_
  refine TL.yld rfl rfl (yld_assign rfl rfl) ?_
  refine TL.done ?_
  refine NX.seq ?_
  refine WC.seq ?_
  refine WC.region ?_
  refine TL.yld rfl rfl (yld_move rfl rfl) ?_
  refine TL.yld rfl rfl (yld_move rfl rfl) ?_
  refine TL.yld rfl rfl (ye_len (c := C_Arc) rfl Tryz.underlying23 rfl (slRep.old ha2 he0 (Nat.le_refl _))) ?_
  refine TL.yld rfl rfl (yld_sub rfl rfl rfl) ?_
  refine TL.yld rfl rfl (yld_assign rfl rfl) ?_
  refine TL.done ?_
  refine NX.seq ?_
  refine WC.seq ?_
  refine WC.seq ?_
  refine WC.region ?_
  refine TL.yld rfl rfl (yld_move rfl rfl) ?_
  refine TL.yld rfl rfl (yld_lss rfl rfl rfl) ?_
  refine TL.done ?_
  refine NX.seq ?_
  refine WC.cond rfl ?_ ?_
  · intro hc3
    replace hF := bif_t hc3 hF
    refine WC.seq ?_
    refine WC.region ?_
    refine TL.yld rfl rfl (yld_assign rfl rfl) ?_
    refine TL.done ?_
    refine NX.seq ?_
    refine WC.ret' ?_
    refine NX.then_r ?_
    obtain rfl := Option.some.inj hF
    exact NX.end (rs := [.tmp 4]) (vs := [.int .i64 (-1)]) rfl ⟨rfl, trivial⟩ ⟨_, rfl, rfl, he0⟩
  · intro hc4
    replace hF := bif_f hc4 hF
    refine WC.skip' ?_
    refine NX.seq ?_
    refine WC.seq ?_
    refine WC.seq ?_
    refine WC.region ?_
    refine TL.yld rfl rfl (yld_assign rfl rfl) ?_
    refine TL.done ?_
    refine NX.seq ?_
    refine WC.block ?_
    refine WC.loop (fun m9 a wl => ∃ (i7 : Int) (i8 : Int), Kn 27 [(0, v1), (1, .int .i64 i7), (5, .int .i64 i8)] a ∧ Ext w wl ∧ w.heap.size ≤ wl.heap.size ∧ F_laws_szArcS_L1 n a0_a (fun i7 i8 => (some i7)) m9 i7 i8 = some r) n ?_ ?_
    · intro a hK; exact ⟨(IntKind.wrap IntKind.i64 (a1_left - ((a0_a.length : Int)))), 0, hK.weaken ⟨rfl, rfl, rfl, trivial⟩, he0, Nat.le_refl _, hF⟩
    · rintro m9 a w5 ⟨i7, i8, hK, he6, hz10, hF⟩
      revert hK; revert a; refine (?_ : WC _ _ _ _ _ _)
      cases m9 with
      | zero => rw [F_laws_szArcS_L1_z] at hF; cases hF
      | succ m9 =>
        rw [F_laws_szArcS_L1_s] at hF
        refine WC.seq ?_
        refine WC.seq ?_
        refine WC.region ?_
        refine TL.yld rfl rfl (yld_move rfl rfl) ?_
        refine TL.yld rfl rfl (yld_move rfl rfl) ?_
        refine TL.yld rfl rfl (ye_len (c := C_Arc) rfl Tryz.underlying23 rfl (slRep.old ha2 he6 (Nat.le_refl _))) ?_
        refine TL.yld rfl rfl (yld_lss rfl rfl rfl) ?_
        refine TL.done ?_
        refine NX.seq ?_
        refine WC.cond rfl ?_ ?_
        · intro hc11
          replace hF := bif_t hc11 hF
          refine WC.skip' ?_
          refine NX.seq ?_
          refine WC.seq ?_
          refine WC.block ?_
          refine WC.seq ?_
          refine WC.region ?_
          refine TL.yld rfl rfl (yld_move rfl rfl) ?_
          refine TL.yld rfl rfl (yld_move rfl rfl) ?_
          obtain ⟨x12, hy13, hF⟩ := bsome hF
          refine TL.ye rfl rfl (ye_index (c := C_Arc) rfl Tryz.underlying23 cn_55 rfl rfl (slRep.old ha2 he6 (Nat.le_refl _)) hy13) ?_
          rintro _ ⟨b14, o15, us16, rfl, hib19, hr17, hcl18⟩
          have hib19 : 0 ≤ b14 ∧ b14 < w.heap.size := ⟨hib19.1, by have := hib19.2; omega⟩
          obtain ⟨v20, v21, rfl, hs22, hs23⟩ := C_Arc_open hr17
          refine TL.yld rfl rfl (yld_loadN (us := [.int .i64 x12.Kind, .int .i64 x12.From, .int .i64 x12.To, .int .i64 x12.Sense, v20, v21]) rfl ag_55 rfl hcl18 cn_55) ?_
          refine TL.yld rfl rfl (yld_move rfl rfl) ?_
          obtain ⟨r24, hr25, hF⟩ := bsome hF
          refine TL.eff rfl rfl (eff_call rfl gf_25 rfl (W_laws_szArc hr25 (hs22.wide (Nat.zero_le _) (by omega)) (hs23.wide (Nat.zero_le _) (by omega)))) ?_
          rintro _ w26 ⟨rfl, hx27⟩
          have he28 : Ext w w26 := Ext.trans he6 hx27
          have hz29 := (hx27).size
          refine TL.yld rfl rfl (yld_assign rfl rfl) ?_
          refine TL.done ?_
          refine NX.seq ?_
          refine WC.seq ?_
          refine WC.region ?_
          refine TL.yld rfl rfl (yld_move rfl rfl) ?_
          refine TL.yld rfl rfl (yld_lss rfl rfl rfl) ?_
          refine TL.done ?_
          refine NX.seq ?_
          refine WC.cond rfl ?_ ?_
          · intro hc30
            replace hF := bif_t hc30 hF
            refine WC.seq ?_
            refine WC.region ?_
            refine TL.yld rfl rfl (yld_assign rfl rfl) ?_
            refine TL.done ?_
            refine NX.seq ?_
            refine WC.ret' ?_
            refine NX.blk_r ?_
            refine NX.then_r ?_
            refine NX.then_r ?_
            refine NX.blk_r ?_
            refine NX.then_r ?_
            obtain rfl := Option.some.inj hF
            exact NX.end (rs := [.tmp 4]) (vs := [.int .i64 (-1)]) rfl ⟨rfl, trivial⟩ ⟨_, rfl, rfl, he28⟩
          · intro hc31
            replace hF := bif_f hc31 hF
            refine WC.skip' ?_
            refine NX.blk_n ?_
            refine NX.seq ?_
            refine WC.region ?_
            refine TL.yld rfl rfl (yld_move rfl rfl) ?_
            refine TL.yld rfl rfl (yld_add rfl rfl rfl) ?_
            refine TL.yld rfl rfl (yld_assign rfl rfl) ?_
            refine TL.done ?_
            refine NX.then_n ?_
            intro a hK; exact ⟨m9, Nat.lt_succ_self m9, r24, (IntKind.wrap IntKind.i64 (i8 + 1)), hK.weaken ⟨rfl, rfl, rfl, trivial⟩, he28, (by omega), hF⟩
        · intro hc32
          replace hF := bif_f hc32 hF
          refine WC.exit' ?_
          refine NX.then_e ?_
          refine NX.then_e ?_
          refine NX.blk_hit ?_
          refine NX.seq ?_
          refine WC.seq ?_
          refine WC.region ?_
          refine TL.yld rfl rfl (yld_move rfl rfl) ?_
          refine TL.yld rfl rfl (yld_assign rfl rfl) ?_
          refine TL.done ?_
          refine NX.seq ?_
          refine WC.ret' ?_
          obtain rfl := Option.some.inj hF
          exact NX.end (rs := [.tmp 4]) (vs := [.int .i64 i7]) rfl ⟨rfl, trivial⟩ ⟨_, rfl, rfl, he6⟩

-- loop.example/g00861/laws.szCell
def F_laws_szCell (n : Nat) (a0_a : S_Cell) (a1_left : Int) : Option Int := (bif decide (IntKind.wrap IntKind.i64 (a1_left - ((a0_a.Name.size : Int))) < 0) then (some (-1)) else (Option.bind (F_laws_szPinS n a0_a.Pins (IntKind.wrap IntKind.i64 (a1_left - ((a0_a.Name.size : Int))))) fun r16 => (bif decide (r16 < 0) then (some (-1)) else (Option.bind (F_laws_szArcS n a0_a.Arcs r16) fun r24 => (bif decide (r24 < 0) then (some (-1)) else (Option.bind (F_laws_szInt64S n a0_a.Truth r24) fun r32 => (bif decide (r32 < 0) then (some (-1)) else (some r32))))))))
set_option maxHeartbeats 40000000 in
theorem W_laws_szCell {n : Nat} {a0_a : S_Cell} {a1_left : Int} {r : Int} {w : World} {v1 : Value} {v3 : Value} {v5 : Value} (hF : F_laws_szCell n a0_a a1_left = some r) (ha2 : slRep C_Pin w (Iv 0 w.heap.size) a0_a.Pins v1) (ha4 : slRep C_Arc w (Iv 0 w.heap.size) a0_a.Arcs v3) (ha6 : slRep (cInt .i64) w (Iv 0 w.heap.size) a0_a.Truth v5) :
    Calls Tryz.prog 4 [.agg #[.string a0_a.Name, .int .i64 a0_a.Kind, v1, v3, v5, .int .i64 a0_a.Leak, .int .i64 a0_a.Energy], .int .i64 a1_left].toArray w (Ret fun u w2 => u = .int .i64 r ∧ Ext w w2) := by
  refine calls_of Tryz.func4 rfl Tryz.ntmps4 ?_
  have he0 : Ext w w := Ext.refl w
  unfold F_laws_szCell at hF
  refine WC.seq ?_
  refine WC.region ?_
  refine TL.eff rfl rfl (eff_box rfl rfl) ?_
  rintro _ w8 ⟨b7, rfl, hn9⟩
  obtain ⟨hn9e, hn9s, hn9x, hb10⟩ := hn9
  have hb10 : Box w8 b7 [.string a0_a.Name, .int .i64 a0_a.Kind, v1, v3, v5, .int .i64 a0_a.Leak, .int .i64 a0_a.Energy] 26 := hb10
  have he12 : Ext w w8 := Ext.trans he0 hn9x
  have hz13 := (hn9x).size
  have hlo11 : w.heap.size ≤ b7 := by rw [hn9e]; exact (he0).size
  refine TL.yld rfl rfl (yld_assign rfl rfl) ?_
  refine TL.done ?_
  refine NX.seq ?_
  refine WC.seq ?_
  refine WC.region ?_
  refine TL.yld rfl rfl (yld_move rfl rfl) ?_
  refine TL.yld rfl rfl (yld_fieldAddr rfl fo_26_0 rfl) ?_
  refine TL.yld rfl rfl (yld_load1 0 rfl ag_9 rfl (Box.cells hb10) rfl rfl) ?_
  refine TL.yld rfl rfl (yld_lens rfl Tryz.underlying9 rfl) ?_
  refine TL.yld rfl rfl (yld_sub rfl rfl rfl) ?_
  refine TL.yld rfl rfl (yld_assign rfl rfl) ?_
  refine TL.done ?_
  refine NX.seq ?_
  refine WC.seq ?_
  refine WC.seq ?_
  refine WC.region ?_
  refine TL.yld rfl rfl (yld_move rfl rfl) ?_
  refine TL.yld rfl rfl (yld_lss rfl rfl rfl) ?_
  refine TL.done ?_
  refine NX.seq ?_
  refine WC.cond rfl ?_ ?_
  · intro hc14
    replace hF := bif_t hc14 hF
    refine WC.seq ?_
    refine WC.region ?_
    refine TL.yld rfl rfl (yld_assign rfl rfl) ?_
    refine TL.done ?_
    refine NX.seq ?_
    refine WC.ret' ?_
    refine NX.then_r ?_
    obtain rfl := Option.some.inj hF
    exact NX.end (rs := [.tmp 4]) (vs := [.int .i64 (-1)]) rfl ⟨rfl, trivial⟩ ⟨_, rfl, rfl, he12⟩
  · intro hc15
    replace hF := bif_f hc15 hF
    refine WC.skip' ?_
    refine NX.seq ?_
    refine WC.seq ?_
    refine WC.region ?_
    refine TL.yld rfl rfl (yld_fieldAddr rfl fo_26_2 rfl) ?_
    refine TL.yld rfl rfl (yld_load1 2 rfl ag_22 rfl (Box.cells hb10) rfl rfl) ?_
    refine TL.yld rfl rfl (yld_move rfl rfl) ?_
    obtain ⟨r16, hr17, hF⟩ := bsome hF
    refine TL.eff rfl rfl (eff_call rfl gf_9 rfl (W_laws_szPinS hr17 ((slRep.old ha2 he12 (Nat.le_refl _)).wide (Nat.le_refl _) (he12).size))) ?_
    rintro _ w18 ⟨rfl, hx19⟩
    have he20 : Ext w w18 := Ext.trans he12 hx19
    have hb10 := Box.ext hb10 hx19
    have hz21 := (hx19).size
    refine TL.yld rfl rfl (yld_assign rfl rfl) ?_
    refine TL.done ?_
    refine NX.seq ?_
    refine WC.seq ?_
    refine WC.seq ?_
    refine WC.region ?_
    refine TL.yld rfl rfl (yld_move rfl rfl) ?_
    refine TL.yld rfl rfl (yld_lss rfl rfl rfl) ?_
    refine TL.done ?_
    refine NX.seq ?_
    refine WC.cond rfl ?_ ?_
    · intro hc22
      replace hF := bif_t hc22 hF
      refine WC.seq ?_
      refine WC.region ?_
      refine TL.yld rfl rfl (yld_assign rfl rfl) ?_
      refine TL.done ?_
      refine NX.seq ?_
      refine WC.ret' ?_
      refine NX.then_r ?_
      obtain rfl := Option.some.inj hF
      exact NX.end (rs := [.tmp 4]) (vs := [.int .i64 (-1)]) rfl ⟨rfl, trivial⟩ ⟨_, rfl, rfl, he20⟩
    · intro hc23
      replace hF := bif_f hc23 hF
      refine WC.skip' ?_
      refine NX.seq ?_
      refine WC.seq ?_
      refine WC.region ?_
      refine TL.yld rfl rfl (yld_fieldAddr rfl fo_26_3 rfl) ?_
      refine TL.yld rfl rfl (yld_load1 3 rfl ag_23 rfl (Box.cells hb10) rfl rfl) ?_
      refine TL.yld rfl rfl (yld_move rfl rfl) ?_
      obtain ⟨r24, hr25, hF⟩ := bsome hF
      refine TL.eff rfl rfl (eff_call rfl gf_10 rfl (W_laws_szArcS hr25 ((slRep.old ha4 he20 (Nat.le_refl _)).wide (Nat.le_refl _) (he20).size))) ?_
      rintro _ w26 ⟨rfl, hx27⟩
      have he28 : Ext w w26 := Ext.trans he20 hx27
      have hb10 := Box.ext hb10 hx27
      have hz29 := (hx27).size
      refine TL.yld rfl rfl (yld_assign rfl rfl) ?_
      refine TL.done ?_
      refine NX.seq ?_
      refine WC.seq ?_
      refine WC.seq ?_
      refine WC.region ?_
      refine TL.yld rfl rfl (yld_move rfl rfl) ?_
      refine TL.yld rfl rfl (yld_lss rfl rfl rfl) ?_
      refine TL.done ?_
      refine NX.seq ?_
      refine WC.cond rfl ?_ ?_
      · intro hc30
        replace hF := bif_t hc30 hF
        refine WC.seq ?_
        refine WC.region ?_
        refine TL.yld rfl rfl (yld_assign rfl rfl) ?_
        refine TL.done ?_
        refine NX.seq ?_
        refine WC.ret' ?_
        refine NX.then_r ?_
        obtain rfl := Option.some.inj hF
        exact NX.end (rs := [.tmp 4]) (vs := [.int .i64 (-1)]) rfl ⟨rfl, trivial⟩ ⟨_, rfl, rfl, he28⟩
      · intro hc31
        replace hF := bif_f hc31 hF
        refine WC.skip' ?_
        refine NX.seq ?_
        refine WC.seq ?_
        refine WC.region ?_
        refine TL.yld rfl rfl (yld_fieldAddr rfl fo_26_4 rfl) ?_
        refine TL.yld rfl rfl (yld_load1 4 rfl ag_24 rfl (Box.cells hb10) rfl rfl) ?_
        refine TL.yld rfl rfl (yld_move rfl rfl) ?_
        obtain ⟨r32, hr33, hF⟩ := bsome hF
        refine TL.eff rfl rfl (eff_call rfl gf_11 rfl (W_laws_szInt64S hr33 ((slRep.old ha6 he28 (Nat.le_refl _)).wide (Nat.le_refl _) (he28).size))) ?_
        rintro _ w34 ⟨rfl, hx35⟩
        have he36 : Ext w w34 := Ext.trans he28 hx35
        have hz37 := (hx35).size
        refine TL.yld rfl rfl (yld_assign rfl rfl) ?_
        refine TL.done ?_
        refine NX.seq ?_
        refine WC.seq ?_
        refine WC.seq ?_
        refine WC.region ?_
        refine TL.yld rfl rfl (yld_move rfl rfl) ?_
        refine TL.yld rfl rfl (yld_lss rfl rfl rfl) ?_
        refine TL.done ?_
        refine NX.seq ?_
        refine WC.cond rfl ?_ ?_
        · intro hc38
          replace hF := bif_t hc38 hF
          refine WC.seq ?_
          refine WC.region ?_
          refine TL.yld rfl rfl (yld_assign rfl rfl) ?_
          refine TL.done ?_
          refine NX.seq ?_
          refine WC.ret' ?_
          refine NX.then_r ?_
          obtain rfl := Option.some.inj hF
          exact NX.end (rs := [.tmp 4]) (vs := [.int .i64 (-1)]) rfl ⟨rfl, trivial⟩ ⟨_, rfl, rfl, he36⟩
        · intro hc39
          replace hF := bif_f hc39 hF
          refine WC.skip' ?_
          refine NX.seq ?_
          refine WC.seq ?_
          refine WC.region ?_
          refine TL.yld rfl rfl (yld_move rfl rfl) ?_
          refine TL.yld rfl rfl (yld_assign rfl rfl) ?_
          refine TL.done ?_
          refine NX.seq ?_
          refine WC.ret' ?_
          obtain rfl := Option.some.inj hF
          exact NX.end (rs := [.tmp 4]) (vs := [.int .i64 r32]) rfl ⟨rfl, trivial⟩ ⟨_, rfl, rfl, he36⟩

-- loop.example/g00861/spec.l03Name
def F_spec_l03Name_L1 (a0_s : ByteArray) (k0 : Int → Option Bool) : Nat → Int → Option Bool
  | 0 => fun _ => none
  | m + 1 => fun i3 => (bif decide (i3 < (a0_s.size : Int)) then (Option.bind (getB a0_s i3) fun x5 => (Option.bind (bif decide (x5 ≥ 97) then (Option.bind (getB a0_s i3) fun x7 => (some (decide (x7 ≤ 122)))) else (some false)) fun c7 => (Option.bind (getB a0_s i3) fun x16 => (Option.bind (bif decide (x16 ≥ 48) then (Option.bind (getB a0_s i3) fun x18 => (some (decide (x18 ≤ 57)))) else (some false)) fun c18 => (bif ((!c7) && ((!((c18 && (decide (i3 > 0))))))) then (some false) else (F_spec_l03Name_L1 a0_s k0 m (IntKind.wrap IntKind.i64 (i3 + 1)))))))) else (k0 i3))
theorem F_spec_l03Name_L1_z (a0_s : ByteArray) (k0 : Int → Option Bool) (i3 : Int) : F_spec_l03Name_L1 a0_s k0 0 i3 = none := rfl
theorem F_spec_l03Name_L1_s (m : Nat) (a0_s : ByteArray) (k0 : Int → Option Bool) (i3 : Int) : F_spec_l03Name_L1 a0_s k0 (m + 1) i3 = (bif decide (i3 < (a0_s.size : Int)) then (Option.bind (getB a0_s i3) fun x5 => (Option.bind (bif decide (x5 ≥ 97) then (Option.bind (getB a0_s i3) fun x7 => (some (decide (x7 ≤ 122)))) else (some false)) fun c7 => (Option.bind (getB a0_s i3) fun x16 => (Option.bind (bif decide (x16 ≥ 48) then (Option.bind (getB a0_s i3) fun x18 => (some (decide (x18 ≤ 57)))) else (some false)) fun c18 => (bif ((!c7) && ((!((c18 && (decide (i3 > 0))))))) then (some false) else (F_spec_l03Name_L1 a0_s k0 m (IntKind.wrap IntKind.i64 (i3 + 1)))))))) else (k0 i3)) := rfl

def F_spec_l03Name (n : Nat) (a0_s : ByteArray) : Option Bool := (F_spec_l03Name_L1 a0_s (fun i3 => (some (((decide ((a0_s.size : Int) ≥ 1)) && (decide ((a0_s.size : Int) ≤ 8)))))) n 0)
set_option maxHeartbeats 40000000 in
theorem W_spec_l03Name {n : Nat} {a0_s : ByteArray} {r : Bool} {w : World} (hF : F_spec_l03Name n a0_s = some r) :
    Calls Tryz.prog 27 [.string a0_s].toArray w (Ret fun u w2 => u = .bool r ∧ Ext w w2) := by
  refine calls_of Tryz.func27 rfl Tryz.ntmps27 ?_
  have he0 : Ext w w := Ext.refl w
  unfold F_spec_l03Name at hF
  refine WC.seq ?_
  refine WC.region ?_
  refine TL.yld rfl rfl (yld_assign rfl rfl) ?_
  refine TL.done ?_
  refine NX.seq ?_
  refine WC.seq ?_
  refine WC.seq ?_
  refine WC.region ?_
  refine TL.yld rfl rfl (yld_assign rfl rfl) ?_
  refine TL.done ?_
  refine NX.seq ?_
  refine WC.block ?_
  refine WC.loop (fun m4 a wl => ∃ (i3 : Int), Kn 50 [(0, .string a0_s), (3, .int .i64 i3)] a ∧ Ext w wl ∧ w.heap.size ≤ wl.heap.size ∧ F_spec_l03Name_L1 a0_s (fun i3 => (some (((decide ((a0_s.size : Int) ≥ 1)) && (decide ((a0_s.size : Int) ≤ 8)))))) m4 i3 = some r) n ?_ ?_
  · intro a hK; exact ⟨0, hK.weaken ⟨rfl, rfl, trivial⟩, he0, Nat.le_refl _, hF⟩
  · rintro m4 a w1 ⟨i3, hK, he2, hz5, hF⟩
    revert hK; revert a; refine (?_ : WC _ _ _ _ _ _)
    cases m4 with
    | zero => rw [F_spec_l03Name_L1_z] at hF; cases hF
    | succ m4 =>
      rw [F_spec_l03Name_L1_s] at hF
      refine WC.seq ?_
      refine WC.seq ?_
      refine WC.region ?_
      refine TL.yld rfl rfl (yld_move rfl rfl) ?_
      refine TL.yld rfl rfl (yld_move rfl rfl) ?_
      refine TL.yld rfl rfl (yld_lens rfl Tryz.underlying9 rfl) ?_
      refine TL.yld rfl rfl (yld_lss rfl rfl rfl) ?_
      refine TL.done ?_
      refine NX.seq ?_
      refine WC.cond rfl ?_ ?_
      · intro hc6
        replace hF := bif_t hc6 hF
        refine WC.skip' ?_
        refine NX.seq ?_
        refine WC.seq ?_
        refine WC.block ?_
        refine WC.seq ?_
        refine WC.region ?_
        refine TL.yld rfl rfl (yld_move rfl rfl) ?_
        refine TL.yld rfl rfl (yld_move rfl rfl) ?_
        obtain ⟨x7, hy8, hF⟩ := bsome hF
        refine TL.yld rfl rfl (yld_indexStr rfl Tryz.underlying9 rfl rfl hy8) ?_
        refine TL.yld rfl rfl (yld_geq rfl rfl rfl) ?_
        refine TL.yld rfl rfl (yld_move rfl rfl) ?_
        obtain ⟨c9, hb10, hF⟩ := bsome hF
        refine TL.cut 5 [(0, .string a0_s), (3, .int .i64 i3), (21, .bool c9)] (fun w' => Ext w1 w') ?_ ?_
        · rcases Bool.eq_false_or_eq_true (decide (x7 ≥ 97)) with hg11 | hg11
          ·
            rw [hg11] at hb10; simp only [cond_true, cond_false] at hb10
            replace hF := hb10
            refine TL.gy (j := 4) (t := 16) rfl rfl rfl hg11 rfl (yld_move rfl rfl) ?_
            refine TL.gy (j := 4) (t := 16) rfl rfl rfl hg11 rfl (yld_move rfl rfl) ?_
            obtain ⟨x12, hy13, hF⟩ := bsome hF
            refine TL.gy (j := 4) (t := 16) rfl rfl rfl hg11 rfl (yld_indexStr rfl Tryz.underlying9 rfl rfl hy13) ?_
            refine TL.gy (j := 4) (t := 16) rfl rfl rfl hg11 rfl (yld_leq rfl rfl rfl) ?_
            obtain rfl := Option.some.inj hF
            refine TL.yld rfl rfl (yld_pick_t rfl rfl hg11 rfl) ?_
            exact TL.nil fun a h => ⟨h.weaken ⟨rfl, rfl, rfl, trivial⟩, Ext.refl _⟩
          ·
            rw [hg11] at hb10; simp only [cond_true, cond_false] at hb10
            refine TL.gnu (j := 4) (t := 16) rfl rfl rfl hg11 rfl ?_
            refine TL.gnu (j := 4) (t := 16) rfl rfl rfl hg11 rfl ?_
            refine TL.gnu (j := 4) (t := 16) rfl rfl rfl hg11 rfl ?_
            refine TL.gnu (j := 4) (t := 16) rfl rfl rfl hg11 rfl ?_
            obtain rfl := Option.some.inj hb10
            refine TL.yld rfl rfl (yld_pick_f rfl rfl hg11 rfl) ?_
            exact TL.nil fun a h => ⟨h.weaken ⟨rfl, rfl, rfl, trivial⟩, Ext.refl _⟩
        intro w14 hx15
        have he16 : Ext w w14 := Ext.trans he2 hx15
        have hz17 := (hx15).size
        refine TL.yld rfl rfl (yld_assign rfl rfl) ?_
        refine TL.done ?_
        refine NX.seq ?_
        refine WC.seq ?_
        refine WC.region ?_
        refine TL.yld rfl rfl (yld_move rfl rfl) ?_
        refine TL.yld rfl rfl (yld_move rfl rfl) ?_
        obtain ⟨x18, hy19, hF⟩ := bsome hF
        refine TL.yld rfl rfl (yld_indexStr rfl Tryz.underlying9 rfl rfl hy19) ?_
        refine TL.yld rfl rfl (yld_geq rfl rfl rfl) ?_
        refine TL.yld rfl rfl (yld_move rfl rfl) ?_
        obtain ⟨c20, hb21, hF⟩ := bsome hF
        refine TL.cut 5 [(0, .string a0_s), (3, .int .i64 i3), (4, .bool c9), (31, .bool c20)] (fun w' => Ext w14 w') ?_ ?_
        · rcases Bool.eq_false_or_eq_true (decide (x18 ≥ 48)) with hg22 | hg22
          ·
            rw [hg22] at hb21; simp only [cond_true, cond_false] at hb21
            replace hF := hb21
            refine TL.gy (j := 4) (t := 26) rfl rfl rfl hg22 rfl (yld_move rfl rfl) ?_
            refine TL.gy (j := 4) (t := 26) rfl rfl rfl hg22 rfl (yld_move rfl rfl) ?_
            obtain ⟨x23, hy24, hF⟩ := bsome hF
            refine TL.gy (j := 4) (t := 26) rfl rfl rfl hg22 rfl (yld_indexStr rfl Tryz.underlying9 rfl rfl hy24) ?_
            refine TL.gy (j := 4) (t := 26) rfl rfl rfl hg22 rfl (yld_leq rfl rfl rfl) ?_
            obtain rfl := Option.some.inj hF
            refine TL.yld rfl rfl (yld_pick_t rfl rfl hg22 rfl) ?_
            exact TL.nil fun a h => ⟨h.weaken ⟨rfl, rfl, rfl, rfl, trivial⟩, Ext.refl _⟩
          ·
            rw [hg22] at hb21; simp only [cond_true, cond_false] at hb21
            refine TL.gnu (j := 4) (t := 26) rfl rfl rfl hg22 rfl ?_
            refine TL.gnu (j := 4) (t := 26) rfl rfl rfl hg22 rfl ?_
            refine TL.gnu (j := 4) (t := 26) rfl rfl rfl hg22 rfl ?_
            refine TL.gnu (j := 4) (t := 26) rfl rfl rfl hg22 rfl ?_
            obtain rfl := Option.some.inj hb21
            refine TL.yld rfl rfl (yld_pick_f rfl rfl hg22 rfl) ?_
            exact TL.nil fun a h => ⟨h.weaken ⟨rfl, rfl, rfl, rfl, trivial⟩, Ext.refl _⟩
        intro w25 hx26
        have he27 : Ext w w25 := Ext.trans he16 hx26
        have hz28 := (hx26).size
        refine TL.yld rfl rfl (yld_assign rfl rfl) ?_
        refine TL.done ?_
        refine NX.seq ?_
        refine WC.seq ?_
        refine WC.region ?_
        refine TL.yld rfl rfl (yld_move rfl rfl) ?_
        refine TL.yld rfl rfl (yld_not rfl rfl) ?_
        refine TL.yld rfl rfl (yld_move rfl rfl) ?_
        refine TL.cut 7 [(0, .string a0_s), (3, .int .i64 i3), (41, .bool (((!c9) && ((!((c20 && (decide (i3 > 0)))))))))] (fun w' => Ext w25 w') ?_ ?_
        · rcases Bool.eq_false_or_eq_true (!c9) with hg29 | hg29
          ·
            refine TL.gy (j := 2) (t := 34) rfl rfl rfl hg29 rfl (yld_move rfl rfl) ?_
            refine TL.gy (j := 2) (t := 34) rfl rfl rfl hg29 rfl (yld_move rfl rfl) ?_
            refine TL.cut 3 [(0, .string a0_s), (3, .int .i64 i3), (34, .bool (!c9)), (35, .bool c20), (36, .bool c20), (39, .bool ((c20 && (decide (i3 > 0)))))] (fun w' => Ext w25 w') ?_ ?_
            · rcases Bool.eq_false_or_eq_true c20 with hg30 | hg30
              ·
                refine TL.gy (j := 4) (t := 36) rfl rfl rfl hg30 rfl (yld_move rfl rfl) ?_
                refine TL.gy (j := 4) (t := 36) rfl rfl rfl hg30 rfl (yld_gtr rfl rfl rfl) ?_
                refine TL.gy (j := 2) (t := 34) rfl rfl rfl hg29 rfl (yld_and_t rfl rfl hg30 rfl) ?_
                exact TL.nil fun a h => ⟨h.weaken ⟨rfl, rfl, rfl, rfl, rfl, rfl, trivial⟩, Ext.refl _⟩
              ·
                refine TL.gnu (j := 4) (t := 36) rfl rfl rfl hg30 rfl ?_
                refine TL.gnu (j := 4) (t := 36) rfl rfl rfl hg30 rfl ?_
                refine TL.gy (j := 2) (t := 34) rfl rfl rfl hg29 rfl (yld_and_f (b2 := decide (i3 > 0)) rfl rfl hg30 rfl) ?_
                exact TL.nil fun a h => ⟨h.weaken ⟨rfl, rfl, rfl, rfl, rfl, rfl, trivial⟩, Ext.refl _⟩
            intro w31 hx32
            have hz34 := (hx32).size
            refine TL.gy (j := 2) (t := 34) rfl rfl rfl hg29 rfl (yld_not rfl rfl) ?_
            refine TL.yld rfl rfl (yld_and_t rfl rfl hg29 rfl) ?_
            exact TL.nil fun a h => ⟨h.weaken ⟨rfl, rfl, rfl, trivial⟩, hx32⟩
          ·
            refine TL.gnu (j := 2) (t := 34) rfl rfl rfl hg29 rfl ?_
            refine TL.gnu (j := 2) (t := 34) rfl rfl rfl hg29 rfl ?_
            refine TL.gu (j := 4) (t := 36) rfl rfl rfl rfl ?_
            refine TL.gu (j := 4) (t := 36) rfl rfl rfl rfl ?_
            refine TL.gnu (j := 2) (t := 34) rfl rfl rfl hg29 rfl ?_
            refine TL.gnu (j := 2) (t := 34) rfl rfl rfl hg29 rfl ?_
            refine TL.yld rfl rfl (yld_and_f (b2 := (!((c20 && (decide (i3 > 0)))))) rfl rfl hg29 rfl) ?_
            exact TL.nil fun a h => ⟨h.weaken ⟨rfl, rfl, rfl, trivial⟩, Ext.refl _⟩
        intro w35 hx36
        have he37 : Ext w w35 := Ext.trans he27 hx36
        have hz38 := (hx36).size
        refine TL.done ?_
        refine NX.seq ?_
        refine WC.cond rfl ?_ ?_
        · intro hc39
          replace hF := bif_t hc39 hF
          refine WC.seq ?_
          refine WC.region ?_
          refine TL.yld rfl rfl (yld_assign rfl rfl) ?_
          refine TL.done ?_
          refine NX.seq ?_
          refine WC.ret' ?_
          refine NX.blk_r ?_
          refine NX.then_r ?_
          refine NX.then_r ?_
          refine NX.blk_r ?_
          refine NX.then_r ?_
          obtain rfl := Option.some.inj hF
          exact NX.end (rs := [.tmp 2]) (vs := [.bool false]) rfl ⟨rfl, trivial⟩ ⟨_, rfl, rfl, he37⟩
        · intro hc40
          replace hF := bif_f hc40 hF
          refine WC.skip' ?_
          refine NX.blk_n ?_
          refine NX.seq ?_
          refine WC.region ?_
          refine TL.yld rfl rfl (yld_move rfl rfl) ?_
          refine TL.yld rfl rfl (yld_add rfl rfl rfl) ?_
          refine TL.yld rfl rfl (yld_assign rfl rfl) ?_
          refine TL.done ?_
          refine NX.then_n ?_
          intro a hK; exact ⟨m4, Nat.lt_succ_self m4, (IntKind.wrap IntKind.i64 (i3 + 1)), hK.weaken ⟨rfl, rfl, trivial⟩, he37, (by omega), hF⟩
      · intro hc41
        replace hF := bif_f hc41 hF
        refine WC.exit' ?_
        refine NX.then_e ?_
        refine NX.then_e ?_
        refine NX.blk_hit ?_
        refine NX.seq ?_
        refine WC.seq ?_
        refine WC.region ?_
        refine TL.yld rfl rfl (yld_move rfl rfl) ?_
        refine TL.yld rfl rfl (yld_lens rfl Tryz.underlying9 rfl) ?_
        refine TL.yld rfl rfl (yld_geq rfl rfl rfl) ?_
        refine TL.yld rfl rfl (yld_move rfl rfl) ?_
        refine TL.cut 4 [(49, .bool (((decide ((a0_s.size : Int) ≥ 1)) && (decide ((a0_s.size : Int) ≤ 8)))))] (fun w' => Ext w1 w') ?_ ?_
        · rcases Bool.eq_false_or_eq_true (decide ((a0_s.size : Int) ≥ 1)) with hg42 | hg42
          ·
            refine TL.gy (j := 3) (t := 45) rfl rfl rfl hg42 rfl (yld_move rfl rfl) ?_
            refine TL.gy (j := 3) (t := 45) rfl rfl rfl hg42 rfl (yld_lens rfl Tryz.underlying9 rfl) ?_
            refine TL.gy (j := 3) (t := 45) rfl rfl rfl hg42 rfl (yld_leq rfl rfl rfl) ?_
            refine TL.yld rfl rfl (yld_and_t rfl rfl hg42 rfl) ?_
            exact TL.nil fun a h => ⟨h.weaken ⟨rfl, trivial⟩, Ext.refl _⟩
          ·
            refine TL.gnu (j := 3) (t := 45) rfl rfl rfl hg42 rfl ?_
            refine TL.gnu (j := 3) (t := 45) rfl rfl rfl hg42 rfl ?_
            refine TL.gnu (j := 3) (t := 45) rfl rfl rfl hg42 rfl ?_
            refine TL.yld rfl rfl (yld_and_f (b2 := decide ((a0_s.size : Int) ≤ 8)) rfl rfl hg42 rfl) ?_
            exact TL.nil fun a h => ⟨h.weaken ⟨rfl, trivial⟩, Ext.refl _⟩
        intro w43 hx44
        have he45 : Ext w w43 := Ext.trans he2 hx44
        have hz46 := (hx44).size
        refine TL.yld rfl rfl (yld_assign rfl rfl) ?_
        refine TL.done ?_
        refine NX.seq ?_
        refine WC.ret' ?_
        obtain rfl := Option.some.inj hF
        exact NX.end (rs := [.tmp 2]) (vs := [.bool (((decide ((a0_s.size : Int) ≥ 1)) && (decide ((a0_s.size : Int) ≤ 8))))]) rfl ⟨rfl, trivial⟩ ⟨_, rfl, rfl, he45⟩

-- loop.example/g00861/spec.l01In
def F_spec_l01In (n : Nat) (a0_n : Int) (a1_low : Int) (a2_high : Int) : Option Bool := (some (((decide (a0_n ≥ a1_low)) && (decide (a0_n ≤ a2_high)))))
set_option maxHeartbeats 40000000 in
theorem W_spec_l01In {n : Nat} {a0_n : Int} {a1_low : Int} {a2_high : Int} {r : Bool} {w : World} (hF : F_spec_l01In n a0_n a1_low a2_high = some r) :
    Calls Tryz.prog 28 [.int .i64 a0_n, .int .i64 a1_low, .int .i64 a2_high].toArray w (Ret fun u w2 => u = .bool r ∧ Ext w w2) := by
  refine calls_of Tryz.func28 rfl Tryz.ntmps28 ?_
  have he0 : Ext w w := Ext.refl w
  unfold F_spec_l01In at hF
  refine WC.seq ?_
  refine WC.region ?_
  refine TL.yld rfl rfl (yld_assign rfl rfl) ?_
  refine TL.done ?_
  refine NX.seq ?_
  refine WC.seq ?_
  refine WC.region ?_
  refine TL.yld rfl rfl (yld_move rfl rfl) ?_
  refine TL.yld rfl rfl (yld_move rfl rfl) ?_
  refine TL.yld rfl rfl (yld_geq rfl rfl rfl) ?_
  refine TL.yld rfl rfl (yld_move rfl rfl) ?_
  refine TL.cut 4 [(14, .bool (((decide (a0_n ≥ a1_low)) && (decide (a0_n ≤ a2_high)))))] (fun w' => Ext w w') ?_ ?_
  · rcases Bool.eq_false_or_eq_true (decide (a0_n ≥ a1_low)) with hg1 | hg1
    ·
      refine TL.gy (j := 3) (t := 10) rfl rfl rfl hg1 rfl (yld_move rfl rfl) ?_
      refine TL.gy (j := 3) (t := 10) rfl rfl rfl hg1 rfl (yld_move rfl rfl) ?_
      refine TL.gy (j := 3) (t := 10) rfl rfl rfl hg1 rfl (yld_leq rfl rfl rfl) ?_
      refine TL.yld rfl rfl (yld_and_t rfl rfl hg1 rfl) ?_
      exact TL.nil fun a h => ⟨h.weaken ⟨rfl, trivial⟩, Ext.refl _⟩
    ·
      refine TL.gnu (j := 3) (t := 10) rfl rfl rfl hg1 rfl ?_
      refine TL.gnu (j := 3) (t := 10) rfl rfl rfl hg1 rfl ?_
      refine TL.gnu (j := 3) (t := 10) rfl rfl rfl hg1 rfl ?_
      refine TL.yld rfl rfl (yld_and_f (b2 := decide (a0_n ≤ a2_high)) rfl rfl hg1 rfl) ?_
      exact TL.nil fun a h => ⟨h.weaken ⟨rfl, trivial⟩, Ext.refl _⟩
  intro w2 hx3
  have he4 : Ext w w2 := Ext.trans he0 hx3
  have hz5 := (hx3).size
  refine TL.yld rfl rfl (yld_assign rfl rfl) ?_
  refine TL.done ?_
  refine NX.seq ?_
  refine WC.ret' ?_
  obtain rfl := Option.some.inj hF
  exact NX.end (rs := [.tmp 6]) (vs := [.bool (((decide (a0_n ≥ a1_low)) && (decide (a0_n ≤ a2_high))))]) rfl ⟨rfl, trivial⟩ ⟨_, rfl, rfl, he4⟩

-- loop.example/g00861/spec.l03Pins
def F_spec_l03Pins_L2 (a0_c : S_Cell) (i24 : Int) (x27 : S_Pin) (k2 : Int → Option (Int × Bool)) : Nat → Int → Option (Int × Bool)
  | 0 => fun _ => none
  | m + 1 => fun i49 => (bif decide (i49 < i24) then (Option.bind (getI a0_c.Pins i49) fun x53 => (bif (x53.Name.toList == x27.Name.toList) then (some (0, false)) else (F_spec_l03Pins_L2 a0_c i24 x27 k2 m (IntKind.wrap IntKind.i64 (i49 + 1))))) else (k2 i49))
theorem F_spec_l03Pins_L2_z (a0_c : S_Cell) (i24 : Int) (x27 : S_Pin) (k2 : Int → Option (Int × Bool)) (i49 : Int) : F_spec_l03Pins_L2 a0_c i24 x27 k2 0 i49 = none := rfl
theorem F_spec_l03Pins_L2_s (m : Nat) (a0_c : S_Cell) (i24 : Int) (x27 : S_Pin) (k2 : Int → Option (Int × Bool)) (i49 : Int) : F_spec_l03Pins_L2 a0_c i24 x27 k2 (m + 1) i49 = (bif decide (i49 < i24) then (Option.bind (getI a0_c.Pins i49) fun x53 => (bif (x53.Name.toList == x27.Name.toList) then (some (0, false)) else (F_spec_l03Pins_L2 a0_c i24 x27 k2 m (IntKind.wrap IntKind.i64 (i49 + 1))))) else (k2 i49)) := rfl

def F_spec_l03Pins_L1 (n : Nat) (a0_c : S_Cell) (k0 : Int → Int → Option (Int × Bool)) : Nat → Int → Int → Option (Int × Bool)
  | 0 => fun _ _ => none
  | m + 1 => fun i23 i24 => (bif decide (i24 < (a0_c.Pins.length : Int)) then (Option.bind (getI a0_c.Pins i24) fun x27 => (F_spec_l03Pins_L2 a0_c i24 x27 (fun i49 => (Option.bind (F_spec_l03Name n x27.Name) fun r52 => (Option.bind (bif (!r52) then (some true) else (Option.bind (F_spec_l01In n x27.Cap 0 500) fun r58 => (some (!r58)))) fun c58 => (bif c58 then (some (0, false)) else (bif (((((i24 == (IntKind.wrap IntKind.i64 (((a0_c.Pins.length : Int)) - 1)))) && ((((((x27.Dir != 2)) || ((x27.Cap != 0)))) || x27.Clock)))) || (((decide (i24 < IntKind.wrap IntKind.i64 (((a0_c.Pins.length : Int)) - 1))) && ((x27.Dir != 1))))) then (some (0, false)) else (bif x27.Clock then (F_spec_l03Pins_L1 n a0_c k0 m (IntKind.wrap IntKind.i64 (i23 + 1)) (IntKind.wrap IntKind.i64 (i24 + 1))) else (F_spec_l03Pins_L1 n a0_c k0 m i23 (IntKind.wrap IntKind.i64 (i24 + 1))))))))) n 0)) else (k0 i23 i24))
theorem F_spec_l03Pins_L1_z (n : Nat) (a0_c : S_Cell) (k0 : Int → Int → Option (Int × Bool)) (i23 : Int) (i24 : Int) : F_spec_l03Pins_L1 n a0_c k0 0 i23 i24 = none := rfl
theorem F_spec_l03Pins_L1_s (m : Nat) (n : Nat) (a0_c : S_Cell) (k0 : Int → Int → Option (Int × Bool)) (i23 : Int) (i24 : Int) : F_spec_l03Pins_L1 n a0_c k0 (m + 1) i23 i24 = (bif decide (i24 < (a0_c.Pins.length : Int)) then (Option.bind (getI a0_c.Pins i24) fun x27 => (F_spec_l03Pins_L2 a0_c i24 x27 (fun i49 => (Option.bind (F_spec_l03Name n x27.Name) fun r52 => (Option.bind (bif (!r52) then (some true) else (Option.bind (F_spec_l01In n x27.Cap 0 500) fun r58 => (some (!r58)))) fun c58 => (bif c58 then (some (0, false)) else (bif (((((i24 == (IntKind.wrap IntKind.i64 (((a0_c.Pins.length : Int)) - 1)))) && ((((((x27.Dir != 2)) || ((x27.Cap != 0)))) || x27.Clock)))) || (((decide (i24 < IntKind.wrap IntKind.i64 (((a0_c.Pins.length : Int)) - 1))) && ((x27.Dir != 1))))) then (some (0, false)) else (bif x27.Clock then (F_spec_l03Pins_L1 n a0_c k0 m (IntKind.wrap IntKind.i64 (i23 + 1)) (IntKind.wrap IntKind.i64 (i24 + 1))) else (F_spec_l03Pins_L1 n a0_c k0 m i23 (IntKind.wrap IntKind.i64 (i24 + 1))))))))) n 0)) else (k0 i23 i24)) := rfl

def F_spec_l03Pins (n : Nat) (a0_c : S_Cell) : Option (Int × Bool) := (bif ((decide ((a0_c.Pins.length : Int) < 2)) || (decide ((a0_c.Pins.length : Int) > 5))) then (some (0, false)) else (F_spec_l03Pins_L1 n a0_c (fun i23 i24 => (some (i23, true))) n 0 0))
set_option maxHeartbeats 40000000 in
theorem W_spec_l03Pins {n : Nat} {a0_c : S_Cell} {r : Int × Bool} {w : World} {v1 : Value} {v3 : Value} {v5 : Value} (hF : F_spec_l03Pins n a0_c = some r) (ha2 : slRep C_Pin w (Iv 0 w.heap.size) a0_c.Pins v1) (ha4 : slRep C_Arc w (Iv 0 w.heap.size) a0_c.Arcs v3) (ha6 : slRep (cInt .i64) w (Iv 0 w.heap.size) a0_c.Truth v5) :
    Calls Tryz.prog 26 [.agg #[.string a0_c.Name, .int .i64 a0_c.Kind, v1, v3, v5, .int .i64 a0_c.Leak, .int .i64 a0_c.Energy]].toArray w (Ret fun u w2 => u = .tuple #[.int .i64 r.1, .bool r.2] ∧ Ext w w2) := by
  refine calls_of Tryz.func26 rfl Tryz.ntmps26 ?_
  have he0 : Ext w w := Ext.refl w
  unfold F_spec_l03Pins at hF
  refine WC.seq ?_
  refine WC.region ?_
  refine TL.eff rfl rfl (eff_box rfl rfl) ?_
  rintro _ w8 ⟨b7, rfl, hn9⟩
  obtain ⟨hn9e, hn9s, hn9x, hb10⟩ := hn9
  have hb10 : Box w8 b7 [.string a0_c.Name, .int .i64 a0_c.Kind, v1, v3, v5, .int .i64 a0_c.Leak, .int .i64 a0_c.Energy] 32 := hb10
  have he12 : Ext w w8 := Ext.trans he0 hn9x
  have hz13 := (hn9x).size
  have hlo11 : w.heap.size ≤ b7 := by rw [hn9e]; exact (he0).size
  refine TL.yld rfl rfl (yld_assign rfl rfl) ?_
  refine TL.yld rfl rfl (yld_assign rfl rfl) ?_
  refine TL.done ?_
  refine NX.seq ?_
  refine WC.seq ?_
  refine WC.region ?_
  refine TL.yld rfl rfl (yld_fieldAddr rfl fo_32_2 rfl) ?_
  refine TL.yld rfl rfl (yld_load1 2 rfl ag_29 rfl (Box.cells hb10) rfl rfl) ?_
  refine TL.yld rfl rfl (ye_len (c := C_Pin) rfl Tryz.underlying29 rfl (slRep.old ha2 he12 (Nat.le_refl _))) ?_
  refine TL.yld rfl rfl (yld_assign rfl rfl) ?_
  refine TL.done ?_
  refine NX.seq ?_
  refine WC.seq ?_
  refine WC.seq ?_
  refine WC.region ?_
  refine TL.yld rfl rfl (yld_move rfl rfl) ?_
  refine TL.yld rfl rfl (yld_lss rfl rfl rfl) ?_
  refine TL.yld rfl rfl (yld_move rfl rfl) ?_
  refine TL.cut 3 [(1, .pointer (some ⟨b7, 0, none⟩)), (4, .int .i64 ((a0_c.Pins.length : Int))), (17, .bool (((decide ((a0_c.Pins.length : Int) < 2)) || (decide ((a0_c.Pins.length : Int) > 5)))))] (fun w' => Ext w8 w') ?_ ?_
  · rcases Bool.eq_false_or_eq_true (decide ((a0_c.Pins.length : Int) < 2)) with hg14 | hg14
    ·
      refine TL.gnu (j := 2) (t := 14) rfl rfl rfl hg14 rfl ?_
      refine TL.gnu (j := 2) (t := 14) rfl rfl rfl hg14 rfl ?_
      refine TL.yld rfl rfl (yld_or_t (b2 := decide ((a0_c.Pins.length : Int) > 5)) rfl rfl hg14 rfl) ?_
      exact TL.nil fun a h => ⟨h.weaken ⟨rfl, rfl, rfl, trivial⟩, Ext.refl _⟩
    ·
      refine TL.gy (j := 2) (t := 14) rfl rfl rfl hg14 rfl (yld_move rfl rfl) ?_
      refine TL.gy (j := 2) (t := 14) rfl rfl rfl hg14 rfl (yld_gtr rfl rfl rfl) ?_
      refine TL.yld rfl rfl (yld_or_f rfl rfl hg14 rfl) ?_
      exact TL.nil fun a h => ⟨h.weaken ⟨rfl, rfl, rfl, trivial⟩, Ext.refl _⟩
  intro w15 hx16
  have he17 : Ext w w15 := Ext.trans he12 hx16
  have hb10 := Box.ext hb10 hx16
  have hz18 := (hx16).size
  refine TL.done ?_
  refine NX.seq ?_
  refine WC.cond rfl ?_ ?_
  · intro hc19
    replace hF := bif_t hc19 hF
    refine WC.seq ?_
    refine WC.region ?_
    refine TL.yld rfl rfl (yld_assign rfl rfl) ?_
    refine TL.yld rfl rfl (yld_assign rfl rfl) ?_
    refine TL.done ?_
    refine NX.seq ?_
    refine WC.ret' ?_
    refine NX.then_r ?_
    obtain rfl := Option.some.inj hF
    exact NX.end (rs := [.tmp 2, .tmp 3]) (vs := [.int .i64 0, .bool false]) rfl ⟨rfl, rfl, trivial⟩ ⟨_, rfl, rfl, he17⟩
  · intro hc20
    replace hF := bif_f hc20 hF
    refine WC.skip' ?_
    refine NX.seq ?_
    refine WC.seq ?_
    refine WC.region ?_
    refine TL.yld rfl rfl (yld_assign rfl rfl) ?_
    refine TL.done ?_
    refine NX.seq ?_
    refine WC.seq ?_
    refine WC.seq ?_
    refine WC.region ?_
    refine TL.yld rfl rfl (yld_assign rfl rfl) ?_
    refine TL.done ?_
    refine NX.seq ?_
    refine WC.block ?_
    refine WC.loop (fun m26 a wl => ∃ (i23 : Int) (i24 : Int), Kn 86 [(1, .pointer (some ⟨b7, 0, none⟩)), (4, .int .i64 ((a0_c.Pins.length : Int))), (5, .int .i64 i23), (6, .int .i64 i24)] a ∧ Ext w wl ∧ w15.heap.size ≤ wl.heap.size ∧ Box wl b7 [.string a0_c.Name, .int .i64 a0_c.Kind, v1, v3, v5, .int .i64 a0_c.Leak, .int .i64 a0_c.Energy] 32 ∧ F_spec_l03Pins_L1 n a0_c (fun i23 i24 => (some (i23, true))) m26 i23 i24 = some r) n ?_ ?_
    · intro a hK; exact ⟨0, 0, hK.weaken ⟨rfl, rfl, rfl, rfl, trivial⟩, he17, Nat.le_refl _, hb10, hF⟩
    · rintro m26 a w21 ⟨i23, i24, hK, he22, hz27, hb25, hF⟩
      revert hK; revert a; refine (?_ : WC _ _ _ _ _ _)
      cases m26 with
      | zero => rw [F_spec_l03Pins_L1_z] at hF; cases hF
      | succ m26 =>
        rw [F_spec_l03Pins_L1_s] at hF
        refine WC.seq ?_
        refine WC.seq ?_
        refine WC.region ?_
        refine TL.yld rfl rfl (yld_move rfl rfl) ?_
        refine TL.yld rfl rfl (yld_move rfl rfl) ?_
        refine TL.yld rfl rfl (yld_lss rfl rfl rfl) ?_
        refine TL.done ?_
        refine NX.seq ?_
        refine WC.cond rfl ?_ ?_
        · intro hc28
          replace hF := bif_t hc28 hF
          refine WC.skip' ?_
          refine NX.seq ?_
          refine WC.seq ?_
          refine WC.block ?_
          refine WC.seq ?_
          refine WC.region ?_
          refine TL.yld rfl rfl (yld_fieldAddr rfl fo_32_2 rfl) ?_
          refine TL.yld rfl rfl (yld_load1 2 rfl ag_29 rfl (Box.cells hb25) rfl rfl) ?_
          refine TL.yld rfl rfl (yld_move rfl rfl) ?_
          obtain ⟨x29, hy30, hF⟩ := bsome hF
          refine TL.ye rfl rfl (ye_index (c := C_Pin) rfl Tryz.underlying29 cn_67 rfl rfl (slRep.old ha2 he22 (Nat.le_refl _)) hy30) ?_
          rintro _ ⟨b31, o32, us33, rfl, hib36, hr34, hcl35⟩
          have hib36 : 0 ≤ b31 ∧ b31 < w.heap.size := ⟨hib36.1, by have := hib36.2; omega⟩
          obtain rfl := C_Pin_open hr34
          refine TL.yld rfl rfl (yld_loadN (us := [.string x29.Name, .int .i64 x29.Dir, .int .i64 x29.Cap, .bool x29.Clock]) rfl ag_67 rfl hcl35 cn_67) ?_
          refine TL.eff rfl rfl (eff_alloc rfl zn_67) ?_
          rintro _ w38 ⟨b37, rfl, hn39⟩
          obtain ⟨hn39e, hn39s, hn39x, hb40⟩ := hn39
          have hb40 : Box w38 b37 [.string ByteArray.empty, .int .i64 0, .int .i64 0, .bool false] 67 := hb40
          have he42 : Ext w w38 := Ext.trans he22 hn39x
          have hb25 := Box.ext hb25 hn39x
          have hz43 := (hn39x).size
          have hlo41 : w.heap.size ≤ b37 := by rw [hn39e]; exact (he22).size
          refine TL.eff rfl rfl (eff_store rfl rfl rfl hb40 cn_67 rfl rfl) ?_
          rintro _ w44 ⟨hu45, hb46⟩
          have he47 : Ext w w44 := Below.trans he42 (Upd.below hu45 (by omega))
          have hb25 := Box.upd hb25 hu45 (by omega)
          have hz48 := (hu45).size
          have hb40 : Box w44 b37 [.string x29.Name, .int .i64 x29.Dir, .int .i64 x29.Cap, .bool x29.Clock] 67 := hb46
          refine TL.done ?_
          refine NX.seq ?_
          refine WC.seq ?_
          refine WC.seq ?_
          refine WC.region ?_
          refine TL.yld rfl rfl (yld_assign rfl rfl) ?_
          refine TL.done ?_
          refine NX.seq ?_
          refine WC.block ?_
          refine WC.loop (fun m54 a wl => ∃ (i51 : Int), Kn 86 [(1, .pointer (some ⟨b7, 0, none⟩)), (4, .int .i64 ((a0_c.Pins.length : Int))), (5, .int .i64 i23), (6, .int .i64 i24), (7, .pointer (some ⟨b37, 0, none⟩)), (8, .int .i64 i51)] a ∧ Ext w wl ∧ w44.heap.size ≤ wl.heap.size ∧ Box wl b37 [.string x29.Name, .int .i64 x29.Dir, .int .i64 x29.Cap, .bool x29.Clock] 67 ∧ Box wl b7 [.string a0_c.Name, .int .i64 a0_c.Kind, v1, v3, v5, .int .i64 a0_c.Leak, .int .i64 a0_c.Energy] 32 ∧ F_spec_l03Pins_L2 a0_c i24 x29 (fun i51 => (Option.bind (F_spec_l03Name n x29.Name) fun r54 => (Option.bind (bif (!r54) then (some true) else (Option.bind (F_spec_l01In n x29.Cap 0 500) fun r60 => (some (!r60)))) fun c60 => (bif c60 then (some (0, false)) else (bif (((((i24 == (IntKind.wrap IntKind.i64 (((a0_c.Pins.length : Int)) - 1)))) && ((((((x29.Dir != 2)) || ((x29.Cap != 0)))) || x29.Clock)))) || (((decide (i24 < IntKind.wrap IntKind.i64 (((a0_c.Pins.length : Int)) - 1))) && ((x29.Dir != 1))))) then (some (0, false)) else (bif x29.Clock then (F_spec_l03Pins_L1 n a0_c (fun i23 i24 => (some (i23, true))) m26 (IntKind.wrap IntKind.i64 (i23 + 1)) (IntKind.wrap IntKind.i64 (i24 + 1))) else (F_spec_l03Pins_L1 n a0_c (fun i23 i24 => (some (i23, true))) m26 i23 (IntKind.wrap IntKind.i64 (i24 + 1))))))))) m54 i51 = some r) n ?_ ?_
          · intro a hK; exact ⟨0, hK.weaken ⟨rfl, rfl, rfl, rfl, rfl, rfl, trivial⟩, he47, Nat.le_refl _, hb40, hb25, hF⟩
          · rintro m54 a w49 ⟨i51, hK, he50, hz55, hb52, hb53, hF⟩
            revert hK; revert a; refine (?_ : WC _ _ _ _ _ _)
            cases m54 with
            | zero => rw [F_spec_l03Pins_L2_z] at hF; cases hF
            | succ m54 =>
              rw [F_spec_l03Pins_L2_s] at hF
              refine WC.seq ?_
              refine WC.seq ?_
              refine WC.region ?_
              refine TL.yld rfl rfl (yld_move rfl rfl) ?_
              refine TL.yld rfl rfl (yld_move rfl rfl) ?_
              refine TL.yld rfl rfl (yld_lss rfl rfl rfl) ?_
              refine TL.done ?_
              refine NX.seq ?_
              refine WC.cond rfl ?_ ?_
              · intro hc56
                replace hF := bif_t hc56 hF
                refine WC.skip' ?_
                refine NX.seq ?_
                refine WC.seq ?_
                refine WC.block ?_
                refine WC.seq ?_
                refine WC.quiet Tryz.hm (by kernel_rfl) ?_
                refine QL.yld rfl rfl (Yld.qui (yld_fieldAddr rfl fo_32_2 rfl)) ?_
                refine QL.yld rfl rfl (Yld.qui (yld_load1 2 rfl ag_29 rfl (Box.cells hb53) rfl rfl)) ?_
                refine QL.yld rfl rfl (Yld.qui (yld_move rfl rfl)) ?_
                obtain ⟨x57, hy58, hF⟩ := bsome hF
                refine QL.ye rfl rfl (ye_index (c := C_Pin) rfl Tryz.underlying29 cn_67 rfl rfl (slRep.old ha2 he50 (Nat.le_refl _)) hy58) ?_
                rintro _ ⟨b59, o60, us61, rfl, hib64, hr62, hcl63⟩
                have hib64 : 0 ≤ b59 ∧ b59 < w.heap.size := ⟨hib64.1, by have := hib64.2; omega⟩
                obtain rfl := C_Pin_open hr62
                refine QL.yld rfl rfl (Yld.qui (yld_fieldAddr rfl fo_67_0 rfl)) ?_
                refine QL.yld rfl rfl (Yld.qui (yld_load1 0 rfl ag_9 rfl hcl63 rfl rfl)) ?_
                refine QL.yld rfl rfl (Yld.qui (yld_fieldAddr rfl fo_67_0 rfl)) ?_
                refine QL.yld rfl rfl (Yld.qui (yld_load1 0 rfl ag_9 rfl (Box.cells hb52) rfl rfl)) ?_
                refine QL.yld rfl rfl (Yld.qui (yld_eqs rfl rfl rfl)) ?_
                refine QL.done fun w65 hx66 => ?_
                have he67 : Ext w w65 := Ext.trans he50 hx66
                have hb52 := Box.ext hb52 hx66
                have hb53 := Box.ext hb53 hx66
                have hz68 := (hx66).size
                refine NX.seq ?_
                refine WC.cond rfl ?_ ?_
                · intro hc69
                  replace hF := bif_t hc69 hF
                  refine WC.seq ?_
                  refine WC.region ?_
                  refine TL.yld rfl rfl (yld_assign rfl rfl) ?_
                  refine TL.yld rfl rfl (yld_assign rfl rfl) ?_
                  refine TL.done ?_
                  refine NX.seq ?_
                  refine WC.ret' ?_
                  refine NX.blk_r ?_
                  refine NX.then_r ?_
                  refine NX.then_r ?_
                  refine NX.blk_r ?_
                  refine NX.then_r ?_
                  refine NX.blk_r ?_
                  refine NX.then_r ?_
                  refine NX.then_r ?_
                  refine NX.blk_r ?_
                  refine NX.then_r ?_
                  obtain rfl := Option.some.inj hF
                  exact NX.end (rs := [.tmp 2, .tmp 3]) (vs := [.int .i64 0, .bool false]) rfl ⟨rfl, rfl, trivial⟩ ⟨_, rfl, rfl, he67⟩
                · intro hc70
                  replace hF := bif_f hc70 hF
                  refine WC.skip' ?_
                  refine NX.blk_n ?_
                  refine NX.seq ?_
                  refine WC.region ?_
                  refine TL.yld rfl rfl (yld_move rfl rfl) ?_
                  refine TL.yld rfl rfl (yld_add rfl rfl rfl) ?_
                  refine TL.yld rfl rfl (yld_assign rfl rfl) ?_
                  refine TL.done ?_
                  refine NX.then_n ?_
                  intro a hK; exact ⟨m54, Nat.lt_succ_self m54, (IntKind.wrap IntKind.i64 (i51 + 1)), hK.weaken ⟨rfl, rfl, rfl, rfl, rfl, rfl, trivial⟩, he67, (by omega), hb52, hb53, hF⟩
              · intro hc71
                replace hF := bif_f hc71 hF
                refine WC.exit' ?_
                refine NX.then_e ?_
                refine NX.then_e ?_
                refine NX.blk_hit ?_
                refine NX.seq ?_
                refine WC.seq ?_
                refine WC.seq ?_
                refine WC.region ?_
                refine TL.yld rfl rfl (yld_fieldAddr rfl fo_67_0 rfl) ?_
                refine TL.yld rfl rfl (yld_load1 0 rfl ag_9 rfl (Box.cells hb52) rfl rfl) ?_
                obtain ⟨r72, hr73, hF⟩ := bsome hF
                refine TL.eff rfl rfl (eff_call rfl gf_27 rfl (W_spec_l03Name hr73)) ?_
                rintro _ w74 ⟨rfl, hx75⟩
                have he76 : Ext w w74 := Ext.trans he50 hx75
                have hb52 := Box.ext hb52 hx75
                have hb53 := Box.ext hb53 hx75
                have hz77 := (hx75).size
                refine TL.yld rfl rfl (yld_not rfl rfl) ?_
                refine TL.yld rfl rfl (yld_move rfl rfl) ?_
                obtain ⟨c78, hb79, hF⟩ := bsome hF
                refine TL.cut 5 [(1, .pointer (some ⟨b7, 0, none⟩)), (4, .int .i64 ((a0_c.Pins.length : Int))), (5, .int .i64 i23), (6, .int .i64 i24), (7, .pointer (some ⟨b37, 0, none⟩)), (51, .bool c78)] (fun w' => Ext w74 w') ?_ ?_
                · rcases Bool.eq_false_or_eq_true (!r72) with hg80 | hg80
                  ·
                    rw [hg80] at hb79; simp only [cond_true, cond_false] at hb79
                    refine TL.gnu (j := 4) (t := 46) rfl rfl rfl hg80 rfl ?_
                    refine TL.gnu (j := 4) (t := 46) rfl rfl rfl hg80 rfl ?_
                    refine TL.gnu (j := 4) (t := 46) rfl rfl rfl hg80 rfl ?_
                    refine TL.gnu (j := 4) (t := 46) rfl rfl rfl hg80 rfl ?_
                    obtain rfl := Option.some.inj hb79
                    refine TL.yld rfl rfl (yld_pick_t rfl rfl hg80 rfl) ?_
                    exact TL.nil fun a h => ⟨h.weaken ⟨rfl, rfl, rfl, rfl, rfl, rfl, trivial⟩, Ext.refl _⟩
                  ·
                    rw [hg80] at hb79; simp only [cond_true, cond_false] at hb79
                    replace hF := hb79
                    refine TL.gy (j := 4) (t := 46) rfl rfl rfl hg80 rfl (yld_fieldAddr rfl fo_67_2 rfl) ?_
                    refine TL.gy (j := 4) (t := 46) rfl rfl rfl hg80 rfl (yld_load1 2 rfl ag_2 rfl (Box.cells hb52) rfl rfl) ?_
                    obtain ⟨r81, hr82, hF⟩ := bsome hF
                    refine TL.ge (j := 4) (t := 46) rfl rfl rfl hg80 rfl (eff_call rfl gf_28 rfl (W_spec_l01In hr82)) ?_
                    rintro _ w83 ⟨rfl, hx84⟩
                    have hb52 := Box.ext hb52 hx84
                    have hb53 := Box.ext hb53 hx84
                    have hz86 := (hx84).size
                    refine TL.gy (j := 4) (t := 46) rfl rfl rfl hg80 rfl (yld_not rfl rfl) ?_
                    obtain rfl := Option.some.inj hF
                    refine TL.yld rfl rfl (yld_pick_f rfl rfl hg80 rfl) ?_
                    exact TL.nil fun a h => ⟨h.weaken ⟨rfl, rfl, rfl, rfl, rfl, rfl, trivial⟩, hx84⟩
                intro w87 hx88
                have he89 : Ext w w87 := Ext.trans he76 hx88
                have hb52 := Box.ext hb52 hx88
                have hb53 := Box.ext hb53 hx88
                have hz90 := (hx88).size
                refine TL.done ?_
                refine NX.seq ?_
                refine WC.cond rfl ?_ ?_
                · intro hc91
                  replace hF := bif_t hc91 hF
                  refine WC.seq ?_
                  refine WC.region ?_
                  refine TL.yld rfl rfl (yld_assign rfl rfl) ?_
                  refine TL.yld rfl rfl (yld_assign rfl rfl) ?_
                  refine TL.done ?_
                  refine NX.seq ?_
                  refine WC.ret' ?_
                  refine NX.then_r ?_
                  refine NX.blk_r ?_
                  refine NX.then_r ?_
                  refine NX.then_r ?_
                  refine NX.blk_r ?_
                  refine NX.then_r ?_
                  obtain rfl := Option.some.inj hF
                  exact NX.end (rs := [.tmp 2, .tmp 3]) (vs := [.int .i64 0, .bool false]) rfl ⟨rfl, rfl, trivial⟩ ⟨_, rfl, rfl, he89⟩
                · intro hc92
                  replace hF := bif_f hc92 hF
                  refine WC.skip' ?_
                  refine NX.seq ?_
                  refine WC.seq ?_
                  refine WC.seq ?_
                  refine WC.region ?_
                  refine TL.yld rfl rfl (yld_move rfl rfl) ?_
                  refine TL.yld rfl rfl (yld_move rfl rfl) ?_
                  refine TL.yld rfl rfl (yld_sub rfl rfl rfl) ?_
                  refine TL.yld rfl rfl (yld_eql rfl rfl rfl) ?_
                  refine TL.yld rfl rfl (yld_move rfl rfl) ?_
                  refine TL.cut 13 [(1, .pointer (some ⟨b7, 0, none⟩)), (4, .int .i64 ((a0_c.Pins.length : Int))), (5, .int .i64 i23), (6, .int .i64 i24), (7, .pointer (some ⟨b37, 0, none⟩)), (69, .bool ((((i24 == (IntKind.wrap IntKind.i64 (((a0_c.Pins.length : Int)) - 1)))) && ((((((x29.Dir != 2)) || ((x29.Cap != 0)))) || x29.Clock)))))] (fun w' => Ext w87 w') ?_ ?_
                  · rcases Bool.eq_false_or_eq_true ((i24 == (IntKind.wrap IntKind.i64 (((a0_c.Pins.length : Int)) - 1)))) with hg93 | hg93
                    ·
                      refine TL.gy (j := 4) (t := 56) rfl rfl rfl hg93 rfl (yld_fieldAddr rfl fo_67_1 rfl) ?_
                      refine TL.gy (j := 4) (t := 56) rfl rfl rfl hg93 rfl (yld_load1 1 rfl ag_2 rfl (Box.cells hb52) rfl rfl) ?_
                      refine TL.gy (j := 4) (t := 56) rfl rfl rfl hg93 rfl (yld_neq rfl rfl rfl) ?_
                      refine TL.gy (j := 4) (t := 56) rfl rfl rfl hg93 rfl (yld_move rfl rfl) ?_
                      refine TL.cut 4 [(1, .pointer (some ⟨b7, 0, none⟩)), (4, .int .i64 ((a0_c.Pins.length : Int))), (5, .int .i64 i23), (6, .int .i64 i24), (7, .pointer (some ⟨b37, 0, none⟩)), (56, .bool ((i24 == (IntKind.wrap IntKind.i64 (((a0_c.Pins.length : Int)) - 1))))), (57, .pointer (some ⟨b37, (0 + 1), none⟩)), (58, .int .i64 x29.Dir), (59, .bool ((x29.Dir != 2))), (60, .bool ((x29.Dir != 2))), (64, .bool ((((x29.Dir != 2)) || ((x29.Cap != 0)))))] (fun w' => Ext w87 w') ?_ ?_
                      · rcases Bool.eq_false_or_eq_true ((x29.Dir != 2)) with hg94 | hg94
                        ·
                          refine TL.gnu (j := 8) (t := 60) rfl rfl rfl hg94 rfl ?_
                          refine TL.gnu (j := 8) (t := 60) rfl rfl rfl hg94 rfl ?_
                          refine TL.gnu (j := 8) (t := 60) rfl rfl rfl hg94 rfl ?_
                          refine TL.gy (j := 4) (t := 56) rfl rfl rfl hg93 rfl (yld_or_t (b2 := (x29.Cap != 0)) rfl rfl hg94 rfl) ?_
                          exact TL.nil fun a h => ⟨h.weaken ⟨rfl, rfl, rfl, rfl, rfl, rfl, rfl, rfl, rfl, rfl, rfl, trivial⟩, Ext.refl _⟩
                        ·
                          refine TL.gy (j := 8) (t := 60) rfl rfl rfl hg94 rfl (yld_fieldAddr rfl fo_67_2 rfl) ?_
                          refine TL.gy (j := 8) (t := 60) rfl rfl rfl hg94 rfl (yld_load1 2 rfl ag_2 rfl (Box.cells hb52) rfl rfl) ?_
                          refine TL.gy (j := 8) (t := 60) rfl rfl rfl hg94 rfl (yld_neq rfl rfl rfl) ?_
                          refine TL.gy (j := 4) (t := 56) rfl rfl rfl hg93 rfl (yld_or_f rfl rfl hg94 rfl) ?_
                          exact TL.nil fun a h => ⟨h.weaken ⟨rfl, rfl, rfl, rfl, rfl, rfl, rfl, rfl, rfl, rfl, rfl, trivial⟩, Ext.refl _⟩
                      intro w95 hx96
                      have hb52 := Box.ext hb52 hx96
                      have hb53 := Box.ext hb53 hx96
                      have hz98 := (hx96).size
                      refine TL.gy (j := 4) (t := 56) rfl rfl rfl hg93 rfl (yld_move rfl rfl) ?_
                      refine TL.cut 3 [(1, .pointer (some ⟨b7, 0, none⟩)), (4, .int .i64 ((a0_c.Pins.length : Int))), (5, .int .i64 i23), (6, .int .i64 i24), (7, .pointer (some ⟨b37, 0, none⟩)), (56, .bool ((i24 == (IntKind.wrap IntKind.i64 (((a0_c.Pins.length : Int)) - 1))))), (57, .pointer (some ⟨b37, (0 + 1), none⟩)), (58, .int .i64 x29.Dir), (59, .bool ((x29.Dir != 2))), (60, .bool ((x29.Dir != 2))), (64, .bool ((((x29.Dir != 2)) || ((x29.Cap != 0))))), (65, .bool ((((x29.Dir != 2)) || ((x29.Cap != 0))))), (68, .bool ((((((x29.Dir != 2)) || ((x29.Cap != 0)))) || x29.Clock)))] (fun w' => Ext w95 w') ?_ ?_
                      · rcases Bool.eq_false_or_eq_true ((((x29.Dir != 2)) || ((x29.Cap != 0)))) with hg99 | hg99
                        ·
                          refine TL.gnu (j := 13) (t := 65) rfl rfl rfl hg99 rfl ?_
                          refine TL.gnu (j := 13) (t := 65) rfl rfl rfl hg99 rfl ?_
                          refine TL.gy (j := 4) (t := 56) rfl rfl rfl hg93 rfl (yld_or_t (b2 := x29.Clock) rfl rfl hg99 rfl) ?_
                          exact TL.nil fun a h => ⟨h.weaken ⟨rfl, rfl, rfl, rfl, rfl, rfl, rfl, rfl, rfl, rfl, rfl, rfl, rfl, trivial⟩, Ext.refl _⟩
                        ·
                          refine TL.gy (j := 13) (t := 65) rfl rfl rfl hg99 rfl (yld_fieldAddr rfl fo_67_3 rfl) ?_
                          refine TL.gy (j := 13) (t := 65) rfl rfl rfl hg99 rfl (yld_load1 3 rfl ag_4 rfl (Box.cells hb52) rfl rfl) ?_
                          refine TL.gy (j := 4) (t := 56) rfl rfl rfl hg93 rfl (yld_or_f rfl rfl hg99 rfl) ?_
                          exact TL.nil fun a h => ⟨h.weaken ⟨rfl, rfl, rfl, rfl, rfl, rfl, rfl, rfl, rfl, rfl, rfl, rfl, rfl, trivial⟩, Ext.refl _⟩
                      intro w100 hx101
                      have hb52 := Box.ext hb52 hx101
                      have hb53 := Box.ext hb53 hx101
                      have hz103 := (hx101).size
                      refine TL.yld rfl rfl (yld_and_t rfl rfl hg93 rfl) ?_
                      exact TL.nil fun a h => ⟨h.weaken ⟨rfl, rfl, rfl, rfl, rfl, rfl, trivial⟩, (Ext.trans hx96 hx101)⟩
                    ·
                      refine TL.gnu (j := 4) (t := 56) rfl rfl rfl hg93 rfl ?_
                      refine TL.gnu (j := 4) (t := 56) rfl rfl rfl hg93 rfl ?_
                      refine TL.gnu (j := 4) (t := 56) rfl rfl rfl hg93 rfl ?_
                      refine TL.gnu (j := 4) (t := 56) rfl rfl rfl hg93 rfl ?_
                      refine TL.gu (j := 8) (t := 60) rfl rfl rfl rfl ?_
                      refine TL.gu (j := 8) (t := 60) rfl rfl rfl rfl ?_
                      refine TL.gu (j := 8) (t := 60) rfl rfl rfl rfl ?_
                      refine TL.gnu (j := 4) (t := 56) rfl rfl rfl hg93 rfl ?_
                      refine TL.gnu (j := 4) (t := 56) rfl rfl rfl hg93 rfl ?_
                      refine TL.gu (j := 13) (t := 65) rfl rfl rfl rfl ?_
                      refine TL.gu (j := 13) (t := 65) rfl rfl rfl rfl ?_
                      refine TL.gnu (j := 4) (t := 56) rfl rfl rfl hg93 rfl ?_
                      refine TL.yld rfl rfl (yld_and_f (b2 := (((((x29.Dir != 2)) || ((x29.Cap != 0)))) || x29.Clock)) rfl rfl hg93 rfl) ?_
                      exact TL.nil fun a h => ⟨h.weaken ⟨rfl, rfl, rfl, rfl, rfl, rfl, trivial⟩, Ext.refl _⟩
                  intro w104 hx105
                  have he106 : Ext w w104 := Ext.trans he89 hx105
                  have hb52 := Box.ext hb52 hx105
                  have hb53 := Box.ext hb53 hx105
                  have hz107 := (hx105).size
                  refine TL.yld rfl rfl (yld_move rfl rfl) ?_
                  refine TL.cut 10 [(1, .pointer (some ⟨b7, 0, none⟩)), (4, .int .i64 ((a0_c.Pins.length : Int))), (5, .int .i64 i23), (6, .int .i64 i24), (7, .pointer (some ⟨b37, 0, none⟩)), (80, .bool ((((((i24 == (IntKind.wrap IntKind.i64 (((a0_c.Pins.length : Int)) - 1)))) && ((((((x29.Dir != 2)) || ((x29.Cap != 0)))) || x29.Clock)))) || (((decide (i24 < IntKind.wrap IntKind.i64 (((a0_c.Pins.length : Int)) - 1))) && ((x29.Dir != 1)))))))] (fun w' => Ext w104 w') ?_ ?_
                  · rcases Bool.eq_false_or_eq_true ((((i24 == (IntKind.wrap IntKind.i64 (((a0_c.Pins.length : Int)) - 1)))) && ((((((x29.Dir != 2)) || ((x29.Cap != 0)))) || x29.Clock)))) with hg108 | hg108
                    ·
                      refine TL.gnu (j := 18) (t := 70) rfl rfl rfl hg108 rfl ?_
                      refine TL.gnu (j := 18) (t := 70) rfl rfl rfl hg108 rfl ?_
                      refine TL.gnu (j := 18) (t := 70) rfl rfl rfl hg108 rfl ?_
                      refine TL.gnu (j := 18) (t := 70) rfl rfl rfl hg108 rfl ?_
                      refine TL.gnu (j := 18) (t := 70) rfl rfl rfl hg108 rfl ?_
                      refine TL.gu (j := 23) (t := 75) rfl rfl rfl rfl ?_
                      refine TL.gu (j := 23) (t := 75) rfl rfl rfl rfl ?_
                      refine TL.gu (j := 23) (t := 75) rfl rfl rfl rfl ?_
                      refine TL.gnu (j := 18) (t := 70) rfl rfl rfl hg108 rfl ?_
                      refine TL.yld rfl rfl (yld_or_t (b2 := ((decide (i24 < IntKind.wrap IntKind.i64 (((a0_c.Pins.length : Int)) - 1))) && ((x29.Dir != 1)))) rfl rfl hg108 rfl) ?_
                      exact TL.nil fun a h => ⟨h.weaken ⟨rfl, rfl, rfl, rfl, rfl, rfl, trivial⟩, Ext.refl _⟩
                    ·
                      refine TL.gy (j := 18) (t := 70) rfl rfl rfl hg108 rfl (yld_move rfl rfl) ?_
                      refine TL.gy (j := 18) (t := 70) rfl rfl rfl hg108 rfl (yld_move rfl rfl) ?_
                      refine TL.gy (j := 18) (t := 70) rfl rfl rfl hg108 rfl (yld_sub rfl rfl rfl) ?_
                      refine TL.gy (j := 18) (t := 70) rfl rfl rfl hg108 rfl (yld_lss rfl rfl rfl) ?_
                      refine TL.gy (j := 18) (t := 70) rfl rfl rfl hg108 rfl (yld_move rfl rfl) ?_
                      refine TL.cut 4 [(1, .pointer (some ⟨b7, 0, none⟩)), (4, .int .i64 ((a0_c.Pins.length : Int))), (5, .int .i64 i23), (6, .int .i64 i24), (7, .pointer (some ⟨b37, 0, none⟩)), (70, .bool ((((i24 == (IntKind.wrap IntKind.i64 (((a0_c.Pins.length : Int)) - 1)))) && ((((((x29.Dir != 2)) || ((x29.Cap != 0)))) || x29.Clock))))), (71, .int .i64 i24), (72, .int .i64 ((a0_c.Pins.length : Int))), (73, .int .i64 (IntKind.wrap IntKind.i64 (((a0_c.Pins.length : Int)) - 1))), (74, .bool (decide (i24 < IntKind.wrap IntKind.i64 (((a0_c.Pins.length : Int)) - 1)))), (75, .bool (decide (i24 < IntKind.wrap IntKind.i64 (((a0_c.Pins.length : Int)) - 1)))), (79, .bool (((decide (i24 < IntKind.wrap IntKind.i64 (((a0_c.Pins.length : Int)) - 1))) && ((x29.Dir != 1)))))] (fun w' => Ext w104 w') ?_ ?_
                      · rcases Bool.eq_false_or_eq_true (decide (i24 < IntKind.wrap IntKind.i64 (((a0_c.Pins.length : Int)) - 1))) with hg109 | hg109
                        ·
                          refine TL.gy (j := 23) (t := 75) rfl rfl rfl hg109 rfl (yld_fieldAddr rfl fo_67_1 rfl) ?_
                          refine TL.gy (j := 23) (t := 75) rfl rfl rfl hg109 rfl (yld_load1 1 rfl ag_2 rfl (Box.cells hb52) rfl rfl) ?_
                          refine TL.gy (j := 23) (t := 75) rfl rfl rfl hg109 rfl (yld_neq rfl rfl rfl) ?_
                          refine TL.gy (j := 18) (t := 70) rfl rfl rfl hg108 rfl (yld_and_t rfl rfl hg109 rfl) ?_
                          exact TL.nil fun a h => ⟨h.weaken ⟨rfl, rfl, rfl, rfl, rfl, rfl, rfl, rfl, rfl, rfl, rfl, rfl, trivial⟩, Ext.refl _⟩
                        ·
                          refine TL.gnu (j := 23) (t := 75) rfl rfl rfl hg109 rfl ?_
                          refine TL.gnu (j := 23) (t := 75) rfl rfl rfl hg109 rfl ?_
                          refine TL.gnu (j := 23) (t := 75) rfl rfl rfl hg109 rfl ?_
                          refine TL.gy (j := 18) (t := 70) rfl rfl rfl hg108 rfl (yld_and_f (b2 := (x29.Dir != 1)) rfl rfl hg109 rfl) ?_
                          exact TL.nil fun a h => ⟨h.weaken ⟨rfl, rfl, rfl, rfl, rfl, rfl, rfl, rfl, rfl, rfl, rfl, rfl, trivial⟩, Ext.refl _⟩
                      intro w110 hx111
                      have hb52 := Box.ext hb52 hx111
                      have hb53 := Box.ext hb53 hx111
                      have hz113 := (hx111).size
                      refine TL.yld rfl rfl (yld_or_f rfl rfl hg108 rfl) ?_
                      exact TL.nil fun a h => ⟨h.weaken ⟨rfl, rfl, rfl, rfl, rfl, rfl, trivial⟩, hx111⟩
                  intro w114 hx115
                  have he116 : Ext w w114 := Ext.trans he106 hx115
                  have hb52 := Box.ext hb52 hx115
                  have hb53 := Box.ext hb53 hx115
                  have hz117 := (hx115).size
                  refine TL.done ?_
                  refine NX.seq ?_
                  refine WC.cond rfl ?_ ?_
                  · intro hc118
                    replace hF := bif_t hc118 hF
                    refine WC.seq ?_
                    refine WC.region ?_
                    refine TL.yld rfl rfl (yld_assign rfl rfl) ?_
                    refine TL.yld rfl rfl (yld_assign rfl rfl) ?_
                    refine TL.done ?_
                    refine NX.seq ?_
                    refine WC.ret' ?_
                    refine NX.then_r ?_
                    refine NX.blk_r ?_
                    refine NX.then_r ?_
                    refine NX.then_r ?_
                    refine NX.blk_r ?_
                    refine NX.then_r ?_
                    obtain rfl := Option.some.inj hF
                    exact NX.end (rs := [.tmp 2, .tmp 3]) (vs := [.int .i64 0, .bool false]) rfl ⟨rfl, rfl, trivial⟩ ⟨_, rfl, rfl, he116⟩
                  · intro hc119
                    replace hF := bif_f hc119 hF
                    refine WC.skip' ?_
                    refine NX.seq ?_
                    refine WC.seq ?_
                    refine WC.region ?_
                    refine TL.yld rfl rfl (yld_fieldAddr rfl fo_67_3 rfl) ?_
                    refine TL.yld rfl rfl (yld_load1 3 rfl ag_4 rfl (Box.cells hb52) rfl rfl) ?_
                    refine TL.done ?_
                    refine NX.seq ?_
                    refine WC.cond rfl ?_ ?_
                    · intro hc120
                      replace hF := bif_t hc120 hF
                      refine WC.region ?_
                      refine TL.yld rfl rfl (yld_move rfl rfl) ?_
                      refine TL.yld rfl rfl (yld_add rfl rfl rfl) ?_
                      refine TL.yld rfl rfl (yld_assign rfl rfl) ?_
                      refine TL.done ?_
                      refine NX.blk_n ?_
                      refine NX.seq ?_
                      refine WC.region ?_
                      refine TL.yld rfl rfl (yld_move rfl rfl) ?_
                      refine TL.yld rfl rfl (yld_add rfl rfl rfl) ?_
                      refine TL.yld rfl rfl (yld_assign rfl rfl) ?_
                      refine TL.done ?_
                      refine NX.then_n ?_
                      intro a hK; exact ⟨m26, Nat.lt_succ_self m26, (IntKind.wrap IntKind.i64 (i23 + 1)), (IntKind.wrap IntKind.i64 (i24 + 1)), hK.weaken ⟨rfl, rfl, rfl, rfl, trivial⟩, he116, (by omega), hb53, hF⟩
                    · intro hc121
                      replace hF := bif_f hc121 hF
                      refine WC.skip' ?_
                      refine NX.blk_n ?_
                      refine NX.seq ?_
                      refine WC.region ?_
                      refine TL.yld rfl rfl (yld_move rfl rfl) ?_
                      refine TL.yld rfl rfl (yld_add rfl rfl rfl) ?_
                      refine TL.yld rfl rfl (yld_assign rfl rfl) ?_
                      refine TL.done ?_
                      refine NX.then_n ?_
                      intro a hK; exact ⟨m26, Nat.lt_succ_self m26, i23, (IntKind.wrap IntKind.i64 (i24 + 1)), hK.weaken ⟨rfl, rfl, rfl, rfl, trivial⟩, he116, (by omega), hb53, hF⟩
        · intro hc122
          replace hF := bif_f hc122 hF
          refine WC.exit' ?_
          refine NX.then_e ?_
          refine NX.then_e ?_
          refine NX.blk_hit ?_
          refine NX.seq ?_
          refine WC.seq ?_
          refine WC.region ?_
          refine TL.yld rfl rfl (yld_move rfl rfl) ?_
          refine TL.yld rfl rfl (yld_assign rfl rfl) ?_
          refine TL.yld rfl rfl (yld_assign rfl rfl) ?_
          refine TL.done ?_
          refine NX.seq ?_
          refine WC.ret' ?_
          obtain rfl := Option.some.inj hF
          exact NX.end (rs := [.tmp 2, .tmp 3]) (vs := [.int .i64 i23, .bool true]) rfl ⟨rfl, rfl, trivial⟩ ⟨_, rfl, rfl, he22⟩

-- loop.example/g00861/spec.l02Axis
def F_spec_l02Axis_L1 (n : Nat) (a0_list : List Int) (k0 : Int → Option Bool) : Nat → Int → Option Bool
  | 0 => fun _ => none
  | m + 1 => fun i5 => (bif decide (i5 < (a0_list.length : Int)) then (Option.bind (getI a0_list i5) fun x7 => (Option.bind (F_spec_l01In n x7 0 100000) fun r15 => (Option.bind (bif (!r15) then (some true) else (Option.bind (bif decide (i5 > 0) then (Option.bind (getI a0_list (IntKind.wrap IntKind.i64 (i5 - 1))) fun x17 => (Option.bind (getI a0_list i5) fun x25 => (some (decide (x17 ≥ x25))))) else (some false)) fun c17 => (some c17))) fun c17 => (bif c17 then (some false) else (F_spec_l02Axis_L1 n a0_list k0 m (IntKind.wrap IntKind.i64 (i5 + 1))))))) else (k0 i5))
theorem F_spec_l02Axis_L1_z (n : Nat) (a0_list : List Int) (k0 : Int → Option Bool) (i5 : Int) : F_spec_l02Axis_L1 n a0_list k0 0 i5 = none := rfl
theorem F_spec_l02Axis_L1_s (m : Nat) (n : Nat) (a0_list : List Int) (k0 : Int → Option Bool) (i5 : Int) : F_spec_l02Axis_L1 n a0_list k0 (m + 1) i5 = (bif decide (i5 < (a0_list.length : Int)) then (Option.bind (getI a0_list i5) fun x7 => (Option.bind (F_spec_l01In n x7 0 100000) fun r15 => (Option.bind (bif (!r15) then (some true) else (Option.bind (bif decide (i5 > 0) then (Option.bind (getI a0_list (IntKind.wrap IntKind.i64 (i5 - 1))) fun x17 => (Option.bind (getI a0_list i5) fun x25 => (some (decide (x17 ≥ x25))))) else (some false)) fun c17 => (some c17))) fun c17 => (bif c17 then (some false) else (F_spec_l02Axis_L1 n a0_list k0 m (IntKind.wrap IntKind.i64 (i5 + 1))))))) else (k0 i5)) := rfl

def F_spec_l02Axis (n : Nat) (a0_list : List Int) : Option Bool := (F_spec_l02Axis_L1 n a0_list (fun i5 => (some (((decide ((a0_list.length : Int) ≥ 1)) && (decide ((a0_list.length : Int) ≤ 4)))))) n 0)
set_option maxHeartbeats 40000000 in
theorem W_spec_l02Axis {n : Nat} {a0_list : List Int} {r : Bool} {w : World} {v1 : Value} (hF : F_spec_l02Axis n a0_list = some r) (ha2 : slRep (cInt .i64) w (Iv 0 w.heap.size) a0_list v1) :
    Calls Tryz.prog 90 [v1].toArray w (Ret fun u w2 => u = .bool r ∧ Ext w w2) := by
  refine calls_of Tryz.func90 rfl Tryz.ntmps90 ?_
  have he0 : Ext w w := Ext.refl w
  unfold F_spec_l02Axis at hF
  refine WC.seq ?_
  refine WC.region ?_
  refine TL.yld rfl rfl (yld_assign rfl rfl) ?_
  refine TL.done ?_
  refine NX.seq ?_
  refine WC.seq ?_
  refine WC.seq ?_
  refine WC.region ?_
  refine TL.yld rfl rfl (yld_assign rfl rfl) ?_
  refine TL.done ?_
  refine NX.seq ?_
  refine WC.block ?_
  refine WC.loop (fun m6 a wl => ∃ (i5 : Int), Kn 40 [(0, v1), (3, .int .i64 i5)] a ∧ Ext w wl ∧ w.heap.size ≤ wl.heap.size ∧ F_spec_l02Axis_L1 n a0_list (fun i5 => (some (((decide ((a0_list.length : Int) ≥ 1)) && (decide ((a0_list.length : Int) ≤ 4)))))) m6 i5 = some r) n ?_ ?_
  · intro a hK; exact ⟨0, hK.weaken ⟨rfl, rfl, trivial⟩, he0, Nat.le_refl _, hF⟩
  · rintro m6 a w3 ⟨i5, hK, he4, hz7, hF⟩
    revert hK; revert a; refine (?_ : WC _ _ _ _ _ _)
    cases m6 with
    | zero => rw [F_spec_l02Axis_L1_z] at hF; cases hF
    | succ m6 =>
      rw [F_spec_l02Axis_L1_s] at hF
      refine WC.seq ?_
      refine WC.seq ?_
      refine WC.region ?_
      refine TL.yld rfl rfl (yld_move rfl rfl) ?_
      refine TL.yld rfl rfl (yld_move rfl rfl) ?_
      refine TL.yld rfl rfl (ye_len (c := (cInt .i64)) rfl Tryz.underlying24 rfl (slRep.old ha2 he4 (Nat.le_refl _))) ?_
      refine TL.yld rfl rfl (yld_lss rfl rfl rfl) ?_
      refine TL.done ?_
      refine NX.seq ?_
      refine WC.cond rfl ?_ ?_
      · intro hc8
        replace hF := bif_t hc8 hF
        refine WC.skip' ?_
        refine NX.seq ?_
        refine WC.seq ?_
        refine WC.block ?_
        refine WC.seq ?_
        refine WC.quiet Tryz.hm (by kernel_rfl) ?_
        refine QL.yld rfl rfl (Yld.qui (yld_move rfl rfl)) ?_
        refine QL.yld rfl rfl (Yld.qui (yld_move rfl rfl)) ?_
        obtain ⟨x9, hy10, hF⟩ := bsome hF
        refine QL.ye rfl rfl (ye_index (c := (cInt .i64)) rfl Tryz.underlying24 cn_2 rfl rfl (slRep.old ha2 he4 (Nat.le_refl _)) hy10) ?_
        rintro _ ⟨b11, o12, us13, rfl, hib16, hr14, hcl15⟩
        have hib16 : 0 ≤ b11 ∧ b11 < w.heap.size := ⟨hib16.1, by have := hib16.2; omega⟩
        obtain rfl := hr14
        refine QL.yld rfl rfl (Yld.qui (yld_load1 0 rfl ag_2 rfl hcl15 rfl rfl)) ?_
        obtain ⟨r17, hr18, hF⟩ := bsome hF
        refine QL.yld rfl rfl (qui_call rfl gf_28 rfl fun w' hw' => W_spec_l01In hr18) ?_
        refine QL.yld rfl rfl (Yld.qui (yld_not rfl rfl)) ?_
        refine QL.yld rfl rfl (Yld.qui (yld_move rfl rfl)) ?_
        obtain ⟨c19, hb20, hF⟩ := bsome hF
        refine QL.cut 15 [(0, v1), (3, .int .i64 i5), (31, .bool c19)] ?_ ?_
        · rcases Bool.eq_false_or_eq_true (!r17) with hg21 | hg21
          ·
            rw [hg21] at hb20; simp only [cond_true, cond_false] at hb20
            refine QL.gnu (j := 6) (t := 16) rfl rfl rfl hg21 rfl ?_
            refine QL.gnu (j := 6) (t := 16) rfl rfl rfl hg21 rfl ?_
            refine QL.gnu (j := 6) (t := 16) rfl rfl rfl hg21 rfl ?_
            refine QL.gu (j := 9) (t := 19) rfl rfl rfl rfl ?_
            refine QL.gu (j := 9) (t := 19) rfl rfl rfl rfl ?_
            refine QL.gu (j := 9) (t := 19) rfl rfl rfl rfl ?_
            refine QL.gu (j := 9) (t := 19) rfl rfl rfl rfl ?_
            refine QL.gu (j := 9) (t := 19) rfl rfl rfl rfl ?_
            refine QL.gu (j := 9) (t := 19) rfl rfl rfl rfl ?_
            refine QL.gu (j := 9) (t := 19) rfl rfl rfl rfl ?_
            refine QL.gu (j := 9) (t := 19) rfl rfl rfl rfl ?_
            refine QL.gu (j := 9) (t := 19) rfl rfl rfl rfl ?_
            refine QL.gu (j := 9) (t := 19) rfl rfl rfl rfl ?_
            refine QL.gnu (j := 6) (t := 16) rfl rfl rfl hg21 rfl ?_
            obtain rfl := Option.some.inj hb20
            refine QL.yld rfl rfl (Yld.qui (yld_pick_t rfl rfl hg21 rfl)) ?_
            exact QL.nil fun a h => h.weaken ⟨rfl, rfl, rfl, trivial⟩
          ·
            rw [hg21] at hb20; simp only [cond_true, cond_false] at hb20
            replace hF := hb20
            refine QL.gy (j := 6) (t := 16) rfl rfl rfl hg21 rfl (Yld.qui (yld_move rfl rfl)) ?_
            refine QL.gy (j := 6) (t := 16) rfl rfl rfl hg21 rfl (Yld.qui (yld_gtr rfl rfl rfl)) ?_
            refine QL.gy (j := 6) (t := 16) rfl rfl rfl hg21 rfl (Yld.qui (yld_move rfl rfl)) ?_
            obtain ⟨c22, hb23, hF⟩ := bsome hF
            refine QL.cut 11 [(0, v1), (3, .int .i64 i5), (16, .bool (!r17)), (17, .int .i64 i5), (18, .bool (decide (i5 > 0))), (19, .bool (decide (i5 > 0))), (30, .bool c22)] ?_ ?_
            · rcases Bool.eq_false_or_eq_true (decide (i5 > 0)) with hg24 | hg24
              ·
                rw [hg24] at hb23; simp only [cond_true, cond_false] at hb23
                replace hF := hb23
                refine QL.gy (j := 9) (t := 19) rfl rfl rfl hg24 rfl (Yld.qui (yld_move rfl rfl)) ?_
                refine QL.gy (j := 9) (t := 19) rfl rfl rfl hg24 rfl (Yld.qui (yld_move rfl rfl)) ?_
                refine QL.gy (j := 9) (t := 19) rfl rfl rfl hg24 rfl (Yld.qui (yld_sub rfl rfl rfl)) ?_
                obtain ⟨x25, hy26, hF⟩ := bsome hF
                refine QL.yeg (j := 9) (t := 19) rfl rfl rfl hg24 rfl (ye_index (c := (cInt .i64)) rfl Tryz.underlying24 cn_2 rfl rfl (slRep.old ha2 he4 (Nat.le_refl _)) hy26) ?_
                rintro _ ⟨b27, o28, us29, rfl, hib32, hr30, hcl31⟩
                have hib32 : 0 ≤ b27 ∧ b27 < w.heap.size := ⟨hib32.1, by have := hib32.2; omega⟩
                obtain rfl := hr30
                refine QL.gy (j := 9) (t := 19) rfl rfl rfl hg24 rfl (Yld.qui (yld_load1 0 rfl ag_2 rfl hcl31 rfl rfl)) ?_
                refine QL.gy (j := 9) (t := 19) rfl rfl rfl hg24 rfl (Yld.qui (yld_move rfl rfl)) ?_
                refine QL.gy (j := 9) (t := 19) rfl rfl rfl hg24 rfl (Yld.qui (yld_move rfl rfl)) ?_
                obtain ⟨x33, hy34, hF⟩ := bsome hF
                refine QL.yeg (j := 9) (t := 19) rfl rfl rfl hg24 rfl (ye_index (c := (cInt .i64)) rfl Tryz.underlying24 cn_2 rfl rfl (slRep.old ha2 he4 (Nat.le_refl _)) hy34) ?_
                rintro _ ⟨b35, o36, us37, rfl, hib40, hr38, hcl39⟩
                have hib40 : 0 ≤ b35 ∧ b35 < w.heap.size := ⟨hib40.1, by have := hib40.2; omega⟩
                obtain rfl := hr38
                refine QL.gy (j := 9) (t := 19) rfl rfl rfl hg24 rfl (Yld.qui (yld_load1 0 rfl ag_2 rfl hcl39 rfl rfl)) ?_
                refine QL.gy (j := 9) (t := 19) rfl rfl rfl hg24 rfl (Yld.qui (yld_geq rfl rfl rfl)) ?_
                obtain rfl := Option.some.inj hF
                refine QL.gy (j := 6) (t := 16) rfl rfl rfl hg21 rfl (Yld.qui (yld_pick_t rfl rfl hg24 rfl)) ?_
                exact QL.nil fun a h => h.weaken ⟨rfl, rfl, rfl, rfl, rfl, rfl, rfl, trivial⟩
              ·
                rw [hg24] at hb23; simp only [cond_true, cond_false] at hb23
                refine QL.gnu (j := 9) (t := 19) rfl rfl rfl hg24 rfl ?_
                refine QL.gnu (j := 9) (t := 19) rfl rfl rfl hg24 rfl ?_
                refine QL.gnu (j := 9) (t := 19) rfl rfl rfl hg24 rfl ?_
                refine QL.gnu (j := 9) (t := 19) rfl rfl rfl hg24 rfl ?_
                refine QL.gnu (j := 9) (t := 19) rfl rfl rfl hg24 rfl ?_
                refine QL.gnu (j := 9) (t := 19) rfl rfl rfl hg24 rfl ?_
                refine QL.gnu (j := 9) (t := 19) rfl rfl rfl hg24 rfl ?_
                refine QL.gnu (j := 9) (t := 19) rfl rfl rfl hg24 rfl ?_
                refine QL.gnu (j := 9) (t := 19) rfl rfl rfl hg24 rfl ?_
                refine QL.gnu (j := 9) (t := 19) rfl rfl rfl hg24 rfl ?_
                obtain rfl := Option.some.inj hb23
                refine QL.gy (j := 6) (t := 16) rfl rfl rfl hg21 rfl (Yld.qui (yld_pick_f rfl rfl hg24 rfl)) ?_
                exact QL.nil fun a h => h.weaken ⟨rfl, rfl, rfl, rfl, rfl, rfl, rfl, trivial⟩
            obtain rfl := Option.some.inj hF
            refine QL.yld rfl rfl (Yld.qui (yld_pick_f rfl rfl hg21 rfl)) ?_
            exact QL.nil fun a h => h.weaken ⟨rfl, rfl, rfl, trivial⟩
        refine QL.done fun w41 hx42 => ?_
        have he43 : Ext w w41 := Ext.trans he4 hx42
        have hz44 := (hx42).size
        refine NX.seq ?_
        refine WC.cond rfl ?_ ?_
        · intro hc45
          replace hF := bif_t hc45 hF
          refine WC.seq ?_
          refine WC.region ?_
          refine TL.yld rfl rfl (yld_assign rfl rfl) ?_
          refine TL.done ?_
          refine NX.seq ?_
          refine WC.ret' ?_
          refine NX.blk_r ?_
          refine NX.then_r ?_
          refine NX.then_r ?_
          refine NX.blk_r ?_
          refine NX.then_r ?_
          obtain rfl := Option.some.inj hF
          exact NX.end (rs := [.tmp 2]) (vs := [.bool false]) rfl ⟨rfl, trivial⟩ ⟨_, rfl, rfl, he43⟩
        · intro hc46
          replace hF := bif_f hc46 hF
          refine WC.skip' ?_
          refine NX.blk_n ?_
          refine NX.seq ?_
          refine WC.region ?_
          refine TL.yld rfl rfl (yld_move rfl rfl) ?_
          refine TL.yld rfl rfl (yld_add rfl rfl rfl) ?_
          refine TL.yld rfl rfl (yld_assign rfl rfl) ?_
          refine TL.done ?_
          refine NX.then_n ?_
          intro a hK; exact ⟨m6, Nat.lt_succ_self m6, (IntKind.wrap IntKind.i64 (i5 + 1)), hK.weaken ⟨rfl, rfl, trivial⟩, he43, (by omega), hF⟩
      · intro hc47
        replace hF := bif_f hc47 hF
        refine WC.exit' ?_
        refine NX.then_e ?_
        refine NX.then_e ?_
        refine NX.blk_hit ?_
        refine NX.seq ?_
        refine WC.seq ?_
        refine WC.region ?_
        refine TL.yld rfl rfl (yld_move rfl rfl) ?_
        refine TL.yld rfl rfl (ye_len (c := (cInt .i64)) rfl Tryz.underlying24 rfl (slRep.old ha2 he4 (Nat.le_refl _))) ?_
        refine TL.yld rfl rfl (yld_geq rfl rfl rfl) ?_
        refine TL.yld rfl rfl (yld_move rfl rfl) ?_
        refine TL.cut 4 [(39, .bool (((decide ((a0_list.length : Int) ≥ 1)) && (decide ((a0_list.length : Int) ≤ 4)))))] (fun w' => Ext w3 w') ?_ ?_
        · rcases Bool.eq_false_or_eq_true (decide ((a0_list.length : Int) ≥ 1)) with hg48 | hg48
          ·
            refine TL.gy (j := 3) (t := 35) rfl rfl rfl hg48 rfl (yld_move rfl rfl) ?_
            refine TL.gy (j := 3) (t := 35) rfl rfl rfl hg48 rfl (ye_len (c := (cInt .i64)) rfl Tryz.underlying24 rfl (slRep.old ha2 he4 (Nat.le_refl _))) ?_
            refine TL.gy (j := 3) (t := 35) rfl rfl rfl hg48 rfl (yld_leq rfl rfl rfl) ?_
            refine TL.yld rfl rfl (yld_and_t rfl rfl hg48 rfl) ?_
            exact TL.nil fun a h => ⟨h.weaken ⟨rfl, trivial⟩, Ext.refl _⟩
          ·
            refine TL.gnu (j := 3) (t := 35) rfl rfl rfl hg48 rfl ?_
            refine TL.gnu (j := 3) (t := 35) rfl rfl rfl hg48 rfl ?_
            refine TL.gnu (j := 3) (t := 35) rfl rfl rfl hg48 rfl ?_
            refine TL.yld rfl rfl (yld_and_f (b2 := decide ((a0_list.length : Int) ≤ 4)) rfl rfl hg48 rfl) ?_
            exact TL.nil fun a h => ⟨h.weaken ⟨rfl, trivial⟩, Ext.refl _⟩
        intro w49 hx50
        have he51 : Ext w w49 := Ext.trans he4 hx50
        have hz52 := (hx50).size
        refine TL.yld rfl rfl (yld_assign rfl rfl) ?_
        refine TL.done ?_
        refine NX.seq ?_
        refine WC.ret' ?_
        obtain rfl := Option.some.inj hF
        exact NX.end (rs := [.tmp 2]) (vs := [.bool (((decide ((a0_list.length : Int) ≥ 1)) && (decide ((a0_list.length : Int) ≤ 4))))]) rfl ⟨rfl, trivial⟩ ⟨_, rfl, rfl, he51⟩

-- loop.example/g00861/spec.IsTable
def F_spec_IsTable_L1 (n : Nat) (a0_t : S_Table) (k0 : Int → Option Bool) : Nat → Int → Option Bool
  | 0 => fun _ => none
  | m + 1 => fun i42 => (bif decide (i42 < (a0_t.Values.length : Int)) then (Option.bind (getI a0_t.Values i42) fun x45 => (Option.bind (F_spec_l01In n x45 (-1000000) 1000000) fun r53 => (bif (!r53) then (some false) else (F_spec_IsTable_L1 n a0_t k0 m (IntKind.wrap IntKind.i64 (i42 + 1)))))) else (k0 i42))
theorem F_spec_IsTable_L1_z (n : Nat) (a0_t : S_Table) (k0 : Int → Option Bool) (i42 : Int) : F_spec_IsTable_L1 n a0_t k0 0 i42 = none := rfl
theorem F_spec_IsTable_L1_s (m : Nat) (n : Nat) (a0_t : S_Table) (k0 : Int → Option Bool) (i42 : Int) : F_spec_IsTable_L1 n a0_t k0 (m + 1) i42 = (bif decide (i42 < (a0_t.Values.length : Int)) then (Option.bind (getI a0_t.Values i42) fun x45 => (Option.bind (F_spec_l01In n x45 (-1000000) 1000000) fun r53 => (bif (!r53) then (some false) else (F_spec_IsTable_L1 n a0_t k0 m (IntKind.wrap IntKind.i64 (i42 + 1)))))) else (k0 i42)) := rfl

def F_spec_IsTable (n : Nat) (a0_t : S_Table) : Option Bool := (Option.bind (F_spec_l02Axis n a0_t.Slews) fun r14 => (Option.bind (bif (!r14) then (some true) else (Option.bind (F_spec_l02Axis n a0_t.Loads) fun r20 => (some (!r20)))) fun c20 => (bif (c20 || ((((a0_t.Values.length : Int)) != (IntKind.wrap IntKind.i64 (((a0_t.Slews.length : Int)) * ((a0_t.Loads.length : Int))))))) then (some false) else (F_spec_IsTable_L1 n a0_t (fun i42 => (some true)) n 0))))
set_option maxHeartbeats 40000000 in
theorem W_spec_IsTable {n : Nat} {a0_t : S_Table} {r : Bool} {w : World} {v1 : Value} {v3 : Value} {v5 : Value} (hF : F_spec_IsTable n a0_t = some r) (ha2 : slRep (cInt .i64) w (Iv 0 w.heap.size) a0_t.Slews v1) (ha4 : slRep (cInt .i64) w (Iv 0 w.heap.size) a0_t.Loads v3) (ha6 : slRep (cInt .i64) w (Iv 0 w.heap.size) a0_t.Values v5) :
    Calls Tryz.prog 76 [.agg #[v1, v3, v5]].toArray w (Ret fun u w2 => u = .bool r ∧ Ext w w2) := by
  refine calls_of Tryz.func76 rfl Tryz.ntmps76 ?_
  have he0 : Ext w w := Ext.refl w
  unfold F_spec_IsTable at hF
  refine WC.seq ?_
  refine WC.region ?_
  refine TL.eff rfl rfl (eff_box rfl rfl) ?_
  rintro _ w8 ⟨b7, rfl, hn9⟩
  obtain ⟨hn9e, hn9s, hn9x, hb10⟩ := hn9
  have hb10 : Box w8 b7 [v1, v3, v5] 94 := hb10
  have he12 : Ext w w8 := Ext.trans he0 hn9x
  have hz13 := (hn9x).size
  have hlo11 : w.heap.size ≤ b7 := by rw [hn9e]; exact (he0).size
  refine TL.yld rfl rfl (yld_assign rfl rfl) ?_
  refine TL.done ?_
  refine NX.seq ?_
  refine WC.seq ?_
  refine WC.seq ?_
  refine WC.region ?_
  refine TL.yld rfl rfl (yld_fieldAddr rfl fo_94_0 rfl) ?_
  refine TL.yld rfl rfl (yld_load1 0 rfl ag_24 rfl (Box.cells hb10) rfl rfl) ?_
  obtain ⟨r14, hr15, hF⟩ := bsome hF
  refine TL.eff rfl rfl (eff_call rfl gf_90 rfl (W_spec_l02Axis hr15 ((slRep.old ha2 he12 (Nat.le_refl _)).wide (Nat.le_refl _) (he12).size))) ?_
  rintro _ w16 ⟨rfl, hx17⟩
  have he18 : Ext w w16 := Ext.trans he12 hx17
  have hb10 := Box.ext hb10 hx17
  have hz19 := (hx17).size
  refine TL.yld rfl rfl (yld_not rfl rfl) ?_
  refine TL.yld rfl rfl (yld_move rfl rfl) ?_
  obtain ⟨c20, hb21, hF⟩ := bsome hF
  refine TL.cut 5 [(1, .pointer (some ⟨b7, 0, none⟩)), (13, .bool c20)] (fun w' => Ext w16 w') ?_ ?_
  · rcases Bool.eq_false_or_eq_true (!r14) with hg22 | hg22
    ·
      rw [hg22] at hb21; simp only [cond_true, cond_false] at hb21
      refine TL.gnu (j := 4) (t := 8) rfl rfl rfl hg22 rfl ?_
      refine TL.gnu (j := 4) (t := 8) rfl rfl rfl hg22 rfl ?_
      refine TL.gnu (j := 4) (t := 8) rfl rfl rfl hg22 rfl ?_
      refine TL.gnu (j := 4) (t := 8) rfl rfl rfl hg22 rfl ?_
      obtain rfl := Option.some.inj hb21
      refine TL.yld rfl rfl (yld_pick_t rfl rfl hg22 rfl) ?_
      exact TL.nil fun a h => ⟨h.weaken ⟨rfl, rfl, trivial⟩, Ext.refl _⟩
    ·
      rw [hg22] at hb21; simp only [cond_true, cond_false] at hb21
      replace hF := hb21
      refine TL.gy (j := 4) (t := 8) rfl rfl rfl hg22 rfl (yld_fieldAddr rfl fo_94_1 rfl) ?_
      refine TL.gy (j := 4) (t := 8) rfl rfl rfl hg22 rfl (yld_load1 1 rfl ag_24 rfl (Box.cells hb10) rfl rfl) ?_
      obtain ⟨r23, hr24, hF⟩ := bsome hF
      refine TL.ge (j := 4) (t := 8) rfl rfl rfl hg22 rfl (eff_call rfl gf_90 rfl (W_spec_l02Axis hr24 ((slRep.old ha4 he18 (Nat.le_refl _)).wide (Nat.le_refl _) (he18).size))) ?_
      rintro _ w25 ⟨rfl, hx26⟩
      have hb10 := Box.ext hb10 hx26
      have hz28 := (hx26).size
      refine TL.gy (j := 4) (t := 8) rfl rfl rfl hg22 rfl (yld_not rfl rfl) ?_
      obtain rfl := Option.some.inj hF
      refine TL.yld rfl rfl (yld_pick_f rfl rfl hg22 rfl) ?_
      exact TL.nil fun a h => ⟨h.weaken ⟨rfl, rfl, trivial⟩, hx26⟩
  intro w29 hx30
  have he31 : Ext w w29 := Ext.trans he18 hx30
  have hb10 := Box.ext hb10 hx30
  have hz32 := (hx30).size
  refine TL.yld rfl rfl (yld_move rfl rfl) ?_
  refine TL.cut 12 [(1, .pointer (some ⟨b7, 0, none⟩)), (26, .bool ((c20 || ((((a0_t.Values.length : Int)) != (IntKind.wrap IntKind.i64 (((a0_t.Slews.length : Int)) * ((a0_t.Loads.length : Int)))))))))] (fun w' => Ext w29 w') ?_ ?_
  · rcases Bool.eq_false_or_eq_true c20 with hg33 | hg33
    ·
      refine TL.gnu (j := 10) (t := 14) rfl rfl rfl hg33 rfl ?_
      refine TL.gnu (j := 10) (t := 14) rfl rfl rfl hg33 rfl ?_
      refine TL.gnu (j := 10) (t := 14) rfl rfl rfl hg33 rfl ?_
      refine TL.gnu (j := 10) (t := 14) rfl rfl rfl hg33 rfl ?_
      refine TL.gnu (j := 10) (t := 14) rfl rfl rfl hg33 rfl ?_
      refine TL.gnu (j := 10) (t := 14) rfl rfl rfl hg33 rfl ?_
      refine TL.gnu (j := 10) (t := 14) rfl rfl rfl hg33 rfl ?_
      refine TL.gnu (j := 10) (t := 14) rfl rfl rfl hg33 rfl ?_
      refine TL.gnu (j := 10) (t := 14) rfl rfl rfl hg33 rfl ?_
      refine TL.gnu (j := 10) (t := 14) rfl rfl rfl hg33 rfl ?_
      refine TL.gnu (j := 10) (t := 14) rfl rfl rfl hg33 rfl ?_
      refine TL.yld rfl rfl (yld_or_t (b2 := (((a0_t.Values.length : Int)) != (IntKind.wrap IntKind.i64 (((a0_t.Slews.length : Int)) * ((a0_t.Loads.length : Int)))))) rfl rfl hg33 rfl) ?_
      exact TL.nil fun a h => ⟨h.weaken ⟨rfl, rfl, trivial⟩, Ext.refl _⟩
    ·
      refine TL.gy (j := 10) (t := 14) rfl rfl rfl hg33 rfl (yld_fieldAddr rfl fo_94_2 rfl) ?_
      refine TL.gy (j := 10) (t := 14) rfl rfl rfl hg33 rfl (yld_load1 2 rfl ag_24 rfl (Box.cells hb10) rfl rfl) ?_
      refine TL.gy (j := 10) (t := 14) rfl rfl rfl hg33 rfl (ye_len (c := (cInt .i64)) rfl Tryz.underlying24 rfl (slRep.old ha6 he31 (Nat.le_refl _))) ?_
      refine TL.gy (j := 10) (t := 14) rfl rfl rfl hg33 rfl (yld_fieldAddr rfl fo_94_0 rfl) ?_
      refine TL.gy (j := 10) (t := 14) rfl rfl rfl hg33 rfl (yld_load1 0 rfl ag_24 rfl (Box.cells hb10) rfl rfl) ?_
      refine TL.gy (j := 10) (t := 14) rfl rfl rfl hg33 rfl (ye_len (c := (cInt .i64)) rfl Tryz.underlying24 rfl (slRep.old ha2 he31 (Nat.le_refl _))) ?_
      refine TL.gy (j := 10) (t := 14) rfl rfl rfl hg33 rfl (yld_fieldAddr rfl fo_94_1 rfl) ?_
      refine TL.gy (j := 10) (t := 14) rfl rfl rfl hg33 rfl (yld_load1 1 rfl ag_24 rfl (Box.cells hb10) rfl rfl) ?_
      refine TL.gy (j := 10) (t := 14) rfl rfl rfl hg33 rfl (ye_len (c := (cInt .i64)) rfl Tryz.underlying24 rfl (slRep.old ha4 he31 (Nat.le_refl _))) ?_
      refine TL.gy (j := 10) (t := 14) rfl rfl rfl hg33 rfl (yld_mul rfl rfl rfl) ?_
      refine TL.gy (j := 10) (t := 14) rfl rfl rfl hg33 rfl (yld_neq rfl rfl rfl) ?_
      refine TL.yld rfl rfl (yld_or_f rfl rfl hg33 rfl) ?_
      exact TL.nil fun a h => ⟨h.weaken ⟨rfl, rfl, trivial⟩, Ext.refl _⟩
  intro w34 hx35
  have he36 : Ext w w34 := Ext.trans he31 hx35
  have hb10 := Box.ext hb10 hx35
  have hz37 := (hx35).size
  refine TL.done ?_
  refine NX.seq ?_
  refine WC.cond rfl ?_ ?_
  · intro hc38
    replace hF := bif_t hc38 hF
    refine WC.seq ?_
    refine WC.region ?_
    refine TL.yld rfl rfl (yld_assign rfl rfl) ?_
    refine TL.done ?_
    refine NX.seq ?_
    refine WC.ret' ?_
    refine NX.then_r ?_
    obtain rfl := Option.some.inj hF
    exact NX.end (rs := [.tmp 2]) (vs := [.bool false]) rfl ⟨rfl, trivial⟩ ⟨_, rfl, rfl, he36⟩
  · intro hc39
    replace hF := bif_f hc39 hF
    refine WC.skip' ?_
    refine NX.seq ?_
    refine WC.seq ?_
    refine WC.seq ?_
    refine WC.region ?_
    refine TL.yld rfl rfl (yld_assign rfl rfl) ?_
    refine TL.done ?_
    refine NX.seq ?_
    refine WC.block ?_
    refine WC.loop (fun m44 a wl => ∃ (i42 : Int), Kn 41 [(1, .pointer (some ⟨b7, 0, none⟩)), (3, .int .i64 i42)] a ∧ Ext w wl ∧ w34.heap.size ≤ wl.heap.size ∧ Box wl b7 [v1, v3, v5] 94 ∧ F_spec_IsTable_L1 n a0_t (fun i42 => (some true)) m44 i42 = some r) n ?_ ?_
    · intro a hK; exact ⟨0, hK.weaken ⟨rfl, rfl, trivial⟩, he36, Nat.le_refl _, hb10, hF⟩
    · rintro m44 a w40 ⟨i42, hK, he41, hz45, hb43, hF⟩
      revert hK; revert a; refine (?_ : WC _ _ _ _ _ _)
      cases m44 with
      | zero => rw [F_spec_IsTable_L1_z] at hF; cases hF
      | succ m44 =>
        rw [F_spec_IsTable_L1_s] at hF
        refine WC.seq ?_
        refine WC.seq ?_
        refine WC.region ?_
        refine TL.yld rfl rfl (yld_move rfl rfl) ?_
        refine TL.yld rfl rfl (yld_fieldAddr rfl fo_94_2 rfl) ?_
        refine TL.yld rfl rfl (yld_load1 2 rfl ag_24 rfl (Box.cells hb43) rfl rfl) ?_
        refine TL.yld rfl rfl (ye_len (c := (cInt .i64)) rfl Tryz.underlying24 rfl (slRep.old ha6 he41 (Nat.le_refl _))) ?_
        refine TL.yld rfl rfl (yld_lss rfl rfl rfl) ?_
        refine TL.done ?_
        refine NX.seq ?_
        refine WC.cond rfl ?_ ?_
        · intro hc46
          replace hF := bif_t hc46 hF
          refine WC.skip' ?_
          refine NX.seq ?_
          refine WC.seq ?_
          refine WC.block ?_
          refine WC.seq ?_
          refine WC.region ?_
          refine TL.yld rfl rfl (yld_fieldAddr rfl fo_94_2 rfl) ?_
          refine TL.yld rfl rfl (yld_load1 2 rfl ag_24 rfl (Box.cells hb43) rfl rfl) ?_
          refine TL.yld rfl rfl (yld_move rfl rfl) ?_
          obtain ⟨x47, hy48, hF⟩ := bsome hF
          refine TL.ye rfl rfl (ye_index (c := (cInt .i64)) rfl Tryz.underlying24 cn_2 rfl rfl (slRep.old ha6 he41 (Nat.le_refl _)) hy48) ?_
          rintro _ ⟨b49, o50, us51, rfl, hib54, hr52, hcl53⟩
          have hib54 : 0 ≤ b49 ∧ b49 < w.heap.size := ⟨hib54.1, by have := hib54.2; omega⟩
          obtain rfl := hr52
          refine TL.yld rfl rfl (yld_load1 0 rfl ag_2 rfl hcl53 rfl rfl) ?_
          obtain ⟨r55, hr56, hF⟩ := bsome hF
          refine TL.eff rfl rfl (eff_call rfl gf_28 rfl (W_spec_l01In hr56)) ?_
          rintro _ w57 ⟨rfl, hx58⟩
          have he59 : Ext w w57 := Ext.trans he41 hx58
          have hb43 := Box.ext hb43 hx58
          have hz60 := (hx58).size
          refine TL.yld rfl rfl (yld_not rfl rfl) ?_
          refine TL.done ?_
          refine NX.seq ?_
          refine WC.cond rfl ?_ ?_
          · intro hc61
            replace hF := bif_t hc61 hF
            refine WC.seq ?_
            refine WC.region ?_
            refine TL.yld rfl rfl (yld_assign rfl rfl) ?_
            refine TL.done ?_
            refine NX.seq ?_
            refine WC.ret' ?_
            refine NX.blk_r ?_
            refine NX.then_r ?_
            refine NX.then_r ?_
            refine NX.blk_r ?_
            refine NX.then_r ?_
            obtain rfl := Option.some.inj hF
            exact NX.end (rs := [.tmp 2]) (vs := [.bool false]) rfl ⟨rfl, trivial⟩ ⟨_, rfl, rfl, he59⟩
          · intro hc62
            replace hF := bif_f hc62 hF
            refine WC.skip' ?_
            refine NX.blk_n ?_
            refine NX.seq ?_
            refine WC.region ?_
            refine TL.yld rfl rfl (yld_move rfl rfl) ?_
            refine TL.yld rfl rfl (yld_add rfl rfl rfl) ?_
            refine TL.yld rfl rfl (yld_assign rfl rfl) ?_
            refine TL.done ?_
            refine NX.then_n ?_
            intro a hK; exact ⟨m44, Nat.lt_succ_self m44, (IntKind.wrap IntKind.i64 (i42 + 1)), hK.weaken ⟨rfl, rfl, trivial⟩, he59, (by omega), hb43, hF⟩
        · intro hc63
          replace hF := bif_f hc63 hF
          refine WC.exit' ?_
          refine NX.then_e ?_
          refine NX.then_e ?_
          refine NX.blk_hit ?_
          refine NX.seq ?_
          refine WC.seq ?_
          refine WC.region ?_
          refine TL.yld rfl rfl (yld_assign rfl rfl) ?_
          refine TL.done ?_
          refine NX.seq ?_
          refine WC.ret' ?_
          obtain rfl := Option.some.inj hF
          exact NX.end (rs := [.tmp 2]) (vs := [.bool true]) rfl ⟨rfl, trivial⟩ ⟨_, rfl, rfl, he41⟩

-- loop.example/g00861/spec.TableBounds
def F_spec_TableBounds_L1 (a0_t : S_Table) (k0 : Int → Int → Int → Option (S_Span × Int)) : Nat → Int → Int → Int → Option (S_Span × Int)
  | 0 => fun _ _ _ => none
  | m + 1 => fun i93 i97 i98 => (bif decide (i93 < (a0_t.Values.length : Int)) then (Option.bind (getI a0_t.Values i93) fun x100 => (Option.bind (getI a0_t.Values i93) fun x128 => (F_spec_TableBounds_L1 a0_t k0 m (IntKind.wrap IntKind.i64 (i93 + 1)) (min i97 x100) (max i98 x128)))) else (k0 i93 i97 i98))
theorem F_spec_TableBounds_L1_z (a0_t : S_Table) (k0 : Int → Int → Int → Option (S_Span × Int)) (i93 : Int) (i97 : Int) (i98 : Int) : F_spec_TableBounds_L1 a0_t k0 0 i93 i97 i98 = none := rfl
theorem F_spec_TableBounds_L1_s (m : Nat) (a0_t : S_Table) (k0 : Int → Int → Int → Option (S_Span × Int)) (i93 : Int) (i97 : Int) (i98 : Int) : F_spec_TableBounds_L1 a0_t k0 (m + 1) i93 i97 i98 = (bif decide (i93 < (a0_t.Values.length : Int)) then (Option.bind (getI a0_t.Values i93) fun x100 => (Option.bind (getI a0_t.Values i93) fun x128 => (F_spec_TableBounds_L1 a0_t k0 m (IntKind.wrap IntKind.i64 (i93 + 1)) (min i97 x100) (max i98 x128)))) else (k0 i93 i97 i98)) := rfl

def F_spec_TableBounds (n : Nat) (a0_t : S_Table) : Option (S_Span × Int) := (Option.bind (F_spec_IsTable n a0_t) fun r21 => (bif (!r21) then (some ((S_Span.mk 0 0), 1)) else (Option.bind (getI a0_t.Values 0) fun x34 => (Option.bind (getI a0_t.Values 0) fun x42 => (F_spec_TableBounds_L1 a0_t (fun i93 i97 i98 => (some ((S_Span.mk i97 i98), 0))) n 1 x34 x42)))))
set_option maxHeartbeats 40000000 in
theorem W_spec_TableBounds {n : Nat} {a0_t : S_Table} {r : S_Span × Int} {w : World} {v1 : Value} {v3 : Value} {v5 : Value} (hF : F_spec_TableBounds n a0_t = some r) (ha2 : slRep (cInt .i64) w (Iv 0 w.heap.size) a0_t.Slews v1) (ha4 : slRep (cInt .i64) w (Iv 0 w.heap.size) a0_t.Loads v3) (ha6 : slRep (cInt .i64) w (Iv 0 w.heap.size) a0_t.Values v5) :
    Calls Tryz.prog 57 [.agg #[v1, v3, v5]].toArray w (Ret fun u w2 => u = .tuple #[.agg #[.int .i64 r.1.Early, .int .i64 r.1.Late], .int .i64 r.2] ∧ Ext w w2) := by
  refine calls_of Tryz.func57 rfl Tryz.ntmps57 ?_
  have he0 : Ext w w := Ext.refl w
  unfold F_spec_TableBounds at hF
  refine WC.seq ?_
  refine WC.region ?_
  refine TL.eff rfl rfl (eff_box rfl rfl) ?_
  rintro _ w8 ⟨b7, rfl, hn9⟩
  obtain ⟨hn9e, hn9s, hn9x, hb10⟩ := hn9
  have hb10 : Box w8 b7 [v1, v3, v5] 94 := hb10
  have he12 : Ext w w8 := Ext.trans he0 hn9x
  have hz13 := (hn9x).size
  have hlo11 : w.heap.size ≤ b7 := by rw [hn9e]; exact (he0).size
  refine TL.eff rfl rfl (eff_alloc rfl zn_91) ?_
  rintro _ w15 ⟨b14, rfl, hn16⟩
  obtain ⟨hn16e, hn16s, hn16x, hb17⟩ := hn16
  have hb17 : Box w15 b14 [.int .i64 0, .int .i64 0] 91 := hb17
  have he19 : Ext w w15 := Ext.trans he12 hn16x
  have hb10 := Box.ext hb10 hn16x
  have hz20 := (hn16x).size
  have hlo18 : w.heap.size ≤ b14 := by rw [hn16e]; exact (he12).size
  refine TL.yld rfl rfl (yld_assign rfl rfl) ?_
  refine TL.done ?_
  refine NX.seq ?_
  refine WC.seq ?_
  refine WC.seq ?_
  refine WC.region ?_
  refine TL.yld rfl rfl (yld_loadN (us := [v1, v3, v5]) rfl ag_94 rfl (Box.cells hb10) cn_94) ?_
  obtain ⟨r21, hr22, hF⟩ := bsome hF
  refine TL.eff rfl rfl (eff_call rfl gf_76 rfl (W_spec_IsTable hr22 ((slRep.old ha2 he19 (Nat.le_refl _)).wide (Nat.le_refl _) (he19).size) ((slRep.old ha4 he19 (Nat.le_refl _)).wide (Nat.le_refl _) (he19).size) ((slRep.old ha6 he19 (Nat.le_refl _)).wide (Nat.le_refl _) (he19).size))) ?_
  rintro _ w23 ⟨rfl, hx24⟩
  have he25 : Ext w w23 := Ext.trans he19 hx24
  have hb10 := Box.ext hb10 hx24
  have hb17 := Box.ext hb17 hx24
  have hz26 := (hx24).size
  refine TL.yld rfl rfl (yld_not rfl rfl) ?_
  refine TL.done ?_
  refine NX.seq ?_
  refine WC.cond rfl ?_ ?_
  · intro hc27
    replace hF := bif_t hc27 hF
    refine WC.seq ?_
    refine WC.region ?_
    refine TL.yld rfl rfl (yld_build (uss := []) (out := [.int .i64 0, .int .i64 0]) rfl rfl zn_91 pl_91 rfl rfl) ?_
    refine TL.eff rfl rfl (eff_store rfl rfl rfl hb17 cn_91 rfl rfl) ?_
    rintro _ w28 ⟨hu29, hb30⟩
    have he31 : Ext w w28 := Below.trans he25 (Upd.below hu29 (by omega))
    have hb10 := Box.upd hb10 hu29 (by omega)
    have hz32 := (hu29).size
    have hb17 : Box w28 b14 [.int .i64 0, .int .i64 0] 91 := hb30
    refine TL.yld rfl rfl (yld_assign rfl rfl) ?_
    refine TL.done ?_
    refine NX.seq ?_
    refine WC.ret' ?_
    refine NX.then_r ?_
    obtain rfl := Option.some.inj hF
    exact NX.end (rs := [.cell 2 91, .tmp 3]) (vs := [.agg #[.int .i64 0, .int .i64 0], .int .i64 1]) rfl ⟨⟨b14, rfl, box_load ag_91 cn_91 hb17⟩, rfl, trivial⟩ ⟨_, rfl, rfl, he31⟩
  · intro hc33
    replace hF := bif_f hc33 hF
    refine WC.skip' ?_
    refine NX.seq ?_
    refine WC.seq ?_
    obtain ⟨x34, hy35, hF⟩ := bsome hF
    obtain ⟨x42, hy43, hF⟩ := bsome hF
    refine WC.held 10 Tryz.hm fun w62 hx63 => ?_
    have he64 : Ext w w62 := Ext.trans he25 hx63
    have hb10 := Box.ext hb10 hx63
    have hb17 := Box.ext hb17 hx63
    have hz65 := (hx63).size
    refine HL.yld 0 (by kernel_rfl) rfl (by kernel_rfl) rfl rfl (yld_fieldAddr rfl fo_94_2 rfl) ?_
    refine HL.yld 1 (by kernel_rfl) rfl (by kernel_rfl) rfl rfl (yld_load1 2 rfl ag_24 rfl (Box.cells hb10) rfl rfl) ?_
    refine HL.ye 2 (by kernel_rfl) rfl (by kernel_rfl) rfl rfl (ye_index (c := (cInt .i64)) rfl Tryz.underlying24 cn_2 rfl rfl (slRep.old ha6 he64 (Nat.le_refl _)) hy35) ?_
    rintro _ ⟨b66, o67, us68, rfl, hib71, hr69, hcl70⟩
    have hib71 : 0 ≤ b66 ∧ b66 < w.heap.size := ⟨hib71.1, by have := hib71.2; omega⟩
    obtain rfl := hr69
    refine HL.yld 3 (by kernel_rfl) rfl (by kernel_rfl) rfl rfl (yld_load1 0 rfl ag_2 rfl hcl70 rfl rfl) ?_
    refine HL.yld 4 (by kernel_rfl) rfl (by kernel_rfl) rfl rfl (yld_fieldAddr rfl fo_94_2 rfl) ?_
    refine HL.yld 5 (by kernel_rfl) rfl (by kernel_rfl) rfl rfl (yld_load1 2 rfl ag_24 rfl (Box.cells hb10) rfl rfl) ?_
    refine HL.ye 6 (by kernel_rfl) rfl (by kernel_rfl) rfl rfl (ye_index (c := (cInt .i64)) rfl Tryz.underlying24 cn_2 rfl rfl (slRep.old ha6 he64 (Nat.le_refl _)) hy43) ?_
    rintro _ ⟨b72, o73, us74, rfl, hib77, hr75, hcl76⟩
    have hib77 : 0 ≤ b72 ∧ b72 < w.heap.size := ⟨hib77.1, by have := hib77.2; omega⟩
    obtain rfl := hr75
    refine HL.yld 7 (by kernel_rfl) rfl (by kernel_rfl) rfl rfl (yld_load1 0 rfl ag_2 rfl hcl76 rfl rfl) ?_
    refine HL.yld 8 (by kernel_rfl) rfl (by kernel_rfl) rfl rfl (yld_build (uss := [(0, [.int .i64 x34]), (1, [.int .i64 x42])]) (out := [.int .i64 x34, .int .i64 x42]) rfl rfl zn_91 pl_91 rfl rfl) ?_
    refine HL.eff 9 rfl rfl (by kernel_rfl) rfl rfl (eff_alloc rfl zn_91) ?_
    rintro _ w79 ⟨b78, rfl, hn80⟩
    obtain ⟨hn80e, hn80s, hn80x, hb81⟩ := hn80
    have hb81 : Box w79 b78 [.int .i64 0, .int .i64 0] 91 := hb81
    have hbs83 : Ext w62 w79 := Ext.trans (Ext.refl w62) hn80x
    have he84 : Ext w w79 := Ext.trans he64 hn80x
    have hb10 := Box.ext hb10 hn80x
    have hb17 := Box.ext hb17 hn80x
    have hz85 := (hn80x).size
    have hlo82 : w.heap.size ≤ b78 := by rw [hn80e]; exact (he64).size
    refine ⟨hbs83, ?_⟩
    refine HL.tail rfl (by kernel_rfl) rfl ?_
    refine TL.eff rfl rfl (eff_store rfl rfl rfl hb81 cn_91 rfl rfl) ?_
    rintro _ w86 ⟨hu87, hb88⟩
    have he89 : Ext w w86 := Below.trans he84 (Upd.below hu87 (by omega))
    have hb10 := Box.upd hb10 hu87 (by omega)
    have hb17 := Box.upd hb17 hu87 (by omega)
    have hz90 := (hu87).size
    have hb81 : Box w86 b78 [.int .i64 x34, .int .i64 x42] 91 := hb88
    refine TL.noPan (l := []) ?_
    refine NX.seq ?_
    refine WC.seq ?_
    refine WC.seq ?_
    refine WC.region ?_
    refine TL.yld rfl rfl (yld_assign rfl rfl) ?_
    refine TL.done ?_
    refine NX.seq ?_
    refine WC.block ?_
    refine WC.loop (fun m99 a wl => ∃ (i93 : Int) (i97 : Int) (i98 : Int), Kn 45 [(1, .pointer (some ⟨b7, 0, none⟩)), (2, .pointer (some ⟨b14, 0, none⟩)), (4, .pointer (some ⟨b78, 0, none⟩)), (5, .int .i64 i93)] a ∧ Ext w wl ∧ w86.heap.size ≤ wl.heap.size ∧ Box wl b14 [.int .i64 0, .int .i64 0] 91 ∧ Box wl b7 [v1, v3, v5] 94 ∧ Box wl b78 [.int .i64 i97, .int .i64 i98] 91 ∧ F_spec_TableBounds_L1 a0_t (fun i93 i97 i98 => (some ((S_Span.mk i97 i98), 0))) m99 i93 i97 i98 = some r) n ?_ ?_
    · intro a hK; exact ⟨1, x34, x42, hK.weaken ⟨rfl, rfl, rfl, rfl, trivial⟩, he89, Nat.le_refl _, hb17, hb10, hb81, hF⟩
    · rintro m99 a w91 ⟨i93, i97, i98, hK, he92, hz100, hb94, hb95, hb96, hF⟩
      revert hK; revert a; refine (?_ : WC _ _ _ _ _ _)
      cases m99 with
      | zero => rw [F_spec_TableBounds_L1_z] at hF; cases hF
      | succ m99 =>
        rw [F_spec_TableBounds_L1_s] at hF
        refine WC.seq ?_
        refine WC.seq ?_
        refine WC.region ?_
        refine TL.yld rfl rfl (yld_move rfl rfl) ?_
        refine TL.yld rfl rfl (yld_fieldAddr rfl fo_94_2 rfl) ?_
        refine TL.yld rfl rfl (yld_load1 2 rfl ag_24 rfl (Box.cells hb95) rfl rfl) ?_
        refine TL.yld rfl rfl (ye_len (c := (cInt .i64)) rfl Tryz.underlying24 rfl (slRep.old ha6 he92 (Nat.le_refl _))) ?_
        refine TL.yld rfl rfl (yld_lss rfl rfl rfl) ?_
        refine TL.done ?_
        refine NX.seq ?_
        refine WC.cond rfl ?_ ?_
        · intro hc101
          replace hF := bif_t hc101 hF
          refine WC.skip' ?_
          refine NX.seq ?_
          refine WC.seq ?_
          refine WC.block ?_
          refine WC.seq ?_
          obtain ⟨x102, hy103, hF⟩ := bsome hF
          refine WC.held 7 Tryz.hm fun w115 hx116 => ?_
          have he117 : Ext w w115 := Ext.trans he92 hx116
          have hb94 := Box.ext hb94 hx116
          have hb95 := Box.ext hb95 hx116
          have hb96 := Box.ext hb96 hx116
          have hz118 := (hx116).size
          refine HL.yld 0 (by kernel_rfl) rfl (by kernel_rfl) rfl rfl (yld_fieldAddr rfl fo_91_0 rfl) ?_
          refine HL.yld 1 (by kernel_rfl) rfl (by kernel_rfl) rfl rfl (yld_load1 0 rfl ag_2 rfl (Box.cells hb96) rfl rfl) ?_
          refine HL.yld 2 (by kernel_rfl) rfl (by kernel_rfl) rfl rfl (yld_fieldAddr rfl fo_94_2 rfl) ?_
          refine HL.yld 3 (by kernel_rfl) rfl (by kernel_rfl) rfl rfl (yld_load1 2 rfl ag_24 rfl (Box.cells hb95) rfl rfl) ?_
          refine HL.yld 4 (by kernel_rfl) rfl (by kernel_rfl) rfl rfl (yld_move rfl rfl) ?_
          refine HL.ye 5 (by kernel_rfl) rfl (by kernel_rfl) rfl rfl (ye_index (c := (cInt .i64)) rfl Tryz.underlying24 cn_2 rfl rfl (slRep.old ha6 he117 (Nat.le_refl _)) hy103) ?_
          rintro _ ⟨b119, o120, us121, rfl, hib124, hr122, hcl123⟩
          have hib124 : 0 ≤ b119 ∧ b119 < w.heap.size := ⟨hib124.1, by have := hib124.2; omega⟩
          obtain rfl := hr122
          refine HL.yld 6 (by kernel_rfl) rfl (by kernel_rfl) rfl rfl (yld_load1 0 rfl ag_2 rfl hcl123 rfl rfl) ?_
          refine HL.tail rfl (by kernel_rfl) rfl ?_
          refine TL.yld rfl rfl (yld_min2 rfl rfl rfl) ?_
          refine TL.yld rfl rfl (yld_fieldAddr rfl fo_91_0 rfl) ?_
          refine TL.eff rfl rfl (eff_store rfl rfl rfl hb96 cn_2 rfl rfl) ?_
          rintro _ w125 ⟨hu126, hb127⟩
          have he128 : Ext w w125 := Below.trans he117 (Upd.below hu126 (by omega))
          have hb94 := Box.upd hb94 hu126 (by omega)
          have hb95 := Box.upd hb95 hu126 (by omega)
          have hz129 := (hu126).size
          have hb96 : Box w125 b78 [.int .i64 (min i97 x102), .int .i64 i98] 91 := hb127
          refine TL.noPan (l := []) ?_
          refine NX.seq ?_
          obtain ⟨x130, hy131, hF⟩ := bsome hF
          refine WC.held 7 Tryz.hm fun w143 hx144 => ?_
          have he145 : Ext w w143 := Ext.trans he128 hx144
          have hb94 := Box.ext hb94 hx144
          have hb95 := Box.ext hb95 hx144
          have hb96 := Box.ext hb96 hx144
          have hz146 := (hx144).size
          refine HL.yld 0 (by kernel_rfl) rfl (by kernel_rfl) rfl rfl (yld_fieldAddr rfl fo_91_1 rfl) ?_
          refine HL.yld 1 (by kernel_rfl) rfl (by kernel_rfl) rfl rfl (yld_load1 1 rfl ag_2 rfl (Box.cells hb96) rfl rfl) ?_
          refine HL.yld 2 (by kernel_rfl) rfl (by kernel_rfl) rfl rfl (yld_fieldAddr rfl fo_94_2 rfl) ?_
          refine HL.yld 3 (by kernel_rfl) rfl (by kernel_rfl) rfl rfl (yld_load1 2 rfl ag_24 rfl (Box.cells hb95) rfl rfl) ?_
          refine HL.yld 4 (by kernel_rfl) rfl (by kernel_rfl) rfl rfl (yld_move rfl rfl) ?_
          refine HL.ye 5 (by kernel_rfl) rfl (by kernel_rfl) rfl rfl (ye_index (c := (cInt .i64)) rfl Tryz.underlying24 cn_2 rfl rfl (slRep.old ha6 he145 (Nat.le_refl _)) hy131) ?_
          rintro _ ⟨b147, o148, us149, rfl, hib152, hr150, hcl151⟩
          have hib152 : 0 ≤ b147 ∧ b147 < w.heap.size := ⟨hib152.1, by have := hib152.2; omega⟩
          obtain rfl := hr150
          refine HL.yld 6 (by kernel_rfl) rfl (by kernel_rfl) rfl rfl (yld_load1 0 rfl ag_2 rfl hcl151 rfl rfl) ?_
          refine HL.tail rfl (by kernel_rfl) rfl ?_
          refine TL.yld rfl rfl (yld_max2 rfl rfl rfl) ?_
          refine TL.yld rfl rfl (yld_fieldAddr rfl fo_91_1 rfl) ?_
          refine TL.eff rfl rfl (eff_store rfl rfl rfl hb96 cn_2 rfl rfl) ?_
          rintro _ w153 ⟨hu154, hb155⟩
          have he156 : Ext w w153 := Below.trans he145 (Upd.below hu154 (by omega))
          have hb94 := Box.upd hb94 hu154 (by omega)
          have hb95 := Box.upd hb95 hu154 (by omega)
          have hz157 := (hu154).size
          have hb96 : Box w153 b78 [.int .i64 (min i97 x102), .int .i64 (max i98 x130)] 91 := hb155
          refine TL.noPan (l := []) ?_
          refine NX.blk_n ?_
          refine NX.seq ?_
          refine WC.region ?_
          refine TL.yld rfl rfl (yld_move rfl rfl) ?_
          refine TL.yld rfl rfl (yld_add rfl rfl rfl) ?_
          refine TL.yld rfl rfl (yld_assign rfl rfl) ?_
          refine TL.done ?_
          refine NX.then_n ?_
          intro a hK; exact ⟨m99, Nat.lt_succ_self m99, (IntKind.wrap IntKind.i64 (i93 + 1)), (min i97 x102), (max i98 x130), hK.weaken ⟨rfl, rfl, rfl, rfl, trivial⟩, he156, (by omega), hb94, hb95, hb96, hF⟩
        · intro hc158
          replace hF := bif_f hc158 hF
          refine WC.exit' ?_
          refine NX.then_e ?_
          refine NX.then_e ?_
          refine NX.blk_hit ?_
          refine NX.seq ?_
          refine WC.seq ?_
          refine WC.region ?_
          refine TL.yld rfl rfl (yld_loadN (us := [.int .i64 i97, .int .i64 i98]) rfl ag_91 rfl (Box.cells hb96) cn_91) ?_
          refine TL.eff rfl rfl (eff_store rfl rfl rfl hb94 cn_91 rfl rfl) ?_
          rintro _ w159 ⟨hu160, hb161⟩
          have he162 : Ext w w159 := Below.trans he92 (Upd.below hu160 (by omega))
          have hz163 := (hu160).size
          have hb94 : Box w159 b14 [.int .i64 i97, .int .i64 i98] 91 := hb161
          refine TL.yld rfl rfl (yld_assign rfl rfl) ?_
          refine TL.done ?_
          refine NX.seq ?_
          refine WC.ret' ?_
          obtain rfl := Option.some.inj hF
          exact NX.end (rs := [.cell 2 91, .tmp 3]) (vs := [.agg #[.int .i64 i97, .int .i64 i98], .int .i64 0]) rfl ⟨⟨b14, rfl, box_load ag_91 cn_91 hb94⟩, rfl, trivial⟩ ⟨_, rfl, rfl, he162⟩

-- loop.example/g00861/spec.l03Tables
def F_spec_l03Tables_L1 (n : Nat) (a0_list : List S_Table) (a1_positive : Bool) (k0 : Int → Option Bool) : Nat → Int → Option Bool
  | 0 => fun _ => none
  | m + 1 => fun i7 => (bif decide (i7 < 2) then (Option.bind (getI a0_list i7) fun x9 => (Option.bind (F_spec_TableBounds n x9) fun r23 => (bif (((r23.2 != 0)) || ((a1_positive && (decide (r23.1.Early < 0))))) then (some false) else (F_spec_l03Tables_L1 n a0_list a1_positive k0 m (IntKind.wrap IntKind.i64 (i7 + 1)))))) else (k0 i7))
theorem F_spec_l03Tables_L1_z (n : Nat) (a0_list : List S_Table) (a1_positive : Bool) (k0 : Int → Option Bool) (i7 : Int) : F_spec_l03Tables_L1 n a0_list a1_positive k0 0 i7 = none := rfl
theorem F_spec_l03Tables_L1_s (m : Nat) (n : Nat) (a0_list : List S_Table) (a1_positive : Bool) (k0 : Int → Option Bool) (i7 : Int) : F_spec_l03Tables_L1 n a0_list a1_positive k0 (m + 1) i7 = (bif decide (i7 < 2) then (Option.bind (getI a0_list i7) fun x9 => (Option.bind (F_spec_TableBounds n x9) fun r23 => (bif (((r23.2 != 0)) || ((a1_positive && (decide (r23.1.Early < 0))))) then (some false) else (F_spec_l03Tables_L1 n a0_list a1_positive k0 m (IntKind.wrap IntKind.i64 (i7 + 1)))))) else (k0 i7)) := rfl

def F_spec_l03Tables (n : Nat) (a0_list : List S_Table) (a1_positive : Bool) : Option Bool := (bif (((a0_list.length : Int)) != 2) then (some false) else (F_spec_l03Tables_L1 n a0_list a1_positive (fun i7 => (some true)) n 0))
set_option maxHeartbeats 40000000 in
theorem W_spec_l03Tables {n : Nat} {a0_list : List S_Table} {a1_positive : Bool} {r : Bool} {w : World} {v1 : Value} (hF : F_spec_l03Tables n a0_list a1_positive = some r) (ha2 : slRep C_Table w (Iv 0 w.heap.size) a0_list v1) :
    Calls Tryz.prog 44 [v1, .bool a1_positive].toArray w (Ret fun u w2 => u = .bool r ∧ Ext w w2) := by
  refine calls_of Tryz.func44 rfl Tryz.ntmps44 ?_
  have he0 : Ext w w := Ext.refl w
  unfold F_spec_l03Tables at hF
  refine WC.seq ?_
  refine WC.region ?_
  refine TL.yld rfl rfl (yld_assign rfl rfl) ?_
  refine TL.done ?_
  refine NX.seq ?_
  refine WC.seq ?_
  refine WC.seq ?_
  refine WC.region ?_
  refine TL.yld rfl rfl (yld_move rfl rfl) ?_
  refine TL.yld rfl rfl (ye_len (c := C_Table) rfl Tryz.underlying60 rfl (slRep.old ha2 he0 (Nat.le_refl _))) ?_
  refine TL.yld rfl rfl (yld_neq rfl rfl rfl) ?_
  refine TL.done ?_
  refine NX.seq ?_
  refine WC.cond rfl ?_ ?_
  · intro hc3
    replace hF := bif_t hc3 hF
    refine WC.seq ?_
    refine WC.region ?_
    refine TL.yld rfl rfl (yld_assign rfl rfl) ?_
    refine TL.done ?_
    refine NX.seq ?_
    refine WC.ret' ?_
    refine NX.then_r ?_
    obtain rfl := Option.some.inj hF
    exact NX.end (rs := [.tmp 4]) (vs := [.bool false]) rfl ⟨rfl, trivial⟩ ⟨_, rfl, rfl, he0⟩
  · intro hc4
    replace hF := bif_f hc4 hF
    refine WC.skip' ?_
    refine NX.seq ?_
    refine WC.seq ?_
    refine WC.seq ?_
    refine WC.region ?_
    refine TL.yld rfl rfl (yld_assign rfl rfl) ?_
    refine TL.done ?_
    refine NX.seq ?_
    refine WC.block ?_
    refine WC.loop (fun m8 a wl => ∃ (i7 : Int), Kn 33 [(0, v1), (1, .bool a1_positive), (5, .int .i64 i7)] a ∧ Ext w wl ∧ w.heap.size ≤ wl.heap.size ∧ F_spec_l03Tables_L1 n a0_list a1_positive (fun i7 => (some true)) m8 i7 = some r) n ?_ ?_
    · intro a hK; exact ⟨0, hK.weaken ⟨rfl, rfl, rfl, trivial⟩, he0, Nat.le_refl _, hF⟩
    · rintro m8 a w5 ⟨i7, hK, he6, hz9, hF⟩
      revert hK; revert a; refine (?_ : WC _ _ _ _ _ _)
      cases m8 with
      | zero => rw [F_spec_l03Tables_L1_z] at hF; cases hF
      | succ m8 =>
        rw [F_spec_l03Tables_L1_s] at hF
        refine WC.seq ?_
        refine WC.seq ?_
        refine WC.region ?_
        refine TL.yld rfl rfl (yld_move rfl rfl) ?_
        refine TL.yld rfl rfl (yld_lss rfl rfl rfl) ?_
        refine TL.done ?_
        refine NX.seq ?_
        refine WC.cond rfl ?_ ?_
        · intro hc10
          replace hF := bif_t hc10 hF
          refine WC.skip' ?_
          refine NX.seq ?_
          refine WC.seq ?_
          refine WC.block ?_
          refine WC.seq ?_
          refine WC.region ?_
          refine TL.yld rfl rfl (yld_move rfl rfl) ?_
          refine TL.yld rfl rfl (yld_move rfl rfl) ?_
          obtain ⟨x11, hy12, hF⟩ := bsome hF
          refine TL.ye rfl rfl (ye_index (c := C_Table) rfl Tryz.underlying60 cn_94 rfl rfl (slRep.old ha2 he6 (Nat.le_refl _)) hy12) ?_
          rintro _ ⟨b13, o14, us15, rfl, hib18, hr16, hcl17⟩
          have hib18 : 0 ≤ b13 ∧ b13 < w.heap.size := ⟨hib18.1, by have := hib18.2; omega⟩
          obtain ⟨v19, v20, v21, rfl, hs22, hs23, hs24⟩ := C_Table_open hr16
          refine TL.yld rfl rfl (yld_loadN (us := [v19, v20, v21]) rfl ag_94 rfl hcl17 cn_94) ?_
          obtain ⟨r25, hr26, hF⟩ := bsome hF
          refine TL.eff rfl rfl (eff_call rfl gf_57 rfl (W_spec_TableBounds hr26 (hs22.wide (Nat.zero_le _) (by omega)) (hs23.wide (Nat.zero_le _) (by omega)) (hs24.wide (Nat.zero_le _) (by omega)))) ?_
          rintro _ w27 ⟨rfl, hx28⟩
          have he29 : Ext w w27 := Ext.trans he6 hx28
          have hz30 := (hx28).size
          refine TL.yld rfl rfl (yld_move rfl rfl) ?_
          refine TL.yld rfl rfl (yld_extract rfl rfl rfl) ?_
          refine TL.yld rfl rfl (yld_extract rfl rfl rfl) ?_
          refine TL.eff rfl rfl (eff_alloc rfl zn_91) ?_
          rintro _ w32 ⟨b31, rfl, hn33⟩
          obtain ⟨hn33e, hn33s, hn33x, hb34⟩ := hn33
          have hb34 : Box w32 b31 [.int .i64 0, .int .i64 0] 91 := hb34
          have he36 : Ext w w32 := Ext.trans he29 hn33x
          have hz37 := (hn33x).size
          have hlo35 : w.heap.size ≤ b31 := by rw [hn33e]; exact (he29).size
          refine TL.eff rfl rfl (eff_store rfl rfl rfl hb34 cn_91 rfl rfl) ?_
          rintro _ w38 ⟨hu39, hb40⟩
          have he41 : Ext w w38 := Below.trans he36 (Upd.below hu39 (by omega))
          have hz42 := (hu39).size
          have hb34 : Box w38 b31 [.int .i64 r25.1.Early, .int .i64 r25.1.Late] 91 := hb40
          refine TL.yld rfl rfl (yld_assign rfl rfl) ?_
          refine TL.done ?_
          refine NX.seq ?_
          refine WC.seq ?_
          refine WC.region ?_
          refine TL.yld rfl rfl (yld_move rfl rfl) ?_
          refine TL.yld rfl rfl (yld_neq rfl rfl rfl) ?_
          refine TL.yld rfl rfl (yld_move rfl rfl) ?_
          refine TL.cut 7 [(0, v1), (1, .bool a1_positive), (5, .int .i64 i7), (32, .bool ((((r25.2 != 0)) || ((a1_positive && (decide (r25.1.Early < 0)))))))] (fun w' => Ext w38 w') ?_ ?_
          · rcases Bool.eq_false_or_eq_true ((r25.2 != 0)) with hg43 | hg43
            ·
              refine TL.gnu (j := 2) (t := 25) rfl rfl rfl hg43 rfl ?_
              refine TL.gnu (j := 2) (t := 25) rfl rfl rfl hg43 rfl ?_
              refine TL.gu (j := 4) (t := 27) rfl rfl rfl rfl ?_
              refine TL.gu (j := 4) (t := 27) rfl rfl rfl rfl ?_
              refine TL.gu (j := 4) (t := 27) rfl rfl rfl rfl ?_
              refine TL.gnu (j := 2) (t := 25) rfl rfl rfl hg43 rfl ?_
              refine TL.yld rfl rfl (yld_or_t (b2 := (a1_positive && (decide (r25.1.Early < 0)))) rfl rfl hg43 rfl) ?_
              exact TL.nil fun a h => ⟨h.weaken ⟨rfl, rfl, rfl, rfl, trivial⟩, Ext.refl _⟩
            ·
              refine TL.gy (j := 2) (t := 25) rfl rfl rfl hg43 rfl (yld_move rfl rfl) ?_
              refine TL.gy (j := 2) (t := 25) rfl rfl rfl hg43 rfl (yld_move rfl rfl) ?_
              refine TL.cut 4 [(0, v1), (1, .bool a1_positive), (5, .int .i64 i7), (25, .bool ((r25.2 != 0))), (26, .bool a1_positive), (27, .bool a1_positive), (31, .bool ((a1_positive && (decide (r25.1.Early < 0)))))] (fun w' => Ext w38 w') ?_ ?_
              · rcases Bool.eq_false_or_eq_true a1_positive with hg44 | hg44
                ·
                  refine TL.gy (j := 4) (t := 27) rfl rfl rfl hg44 rfl (yld_fieldAddr rfl fo_91_0 rfl) ?_
                  refine TL.gy (j := 4) (t := 27) rfl rfl rfl hg44 rfl (yld_load1 0 rfl ag_2 rfl (Box.cells hb34) rfl rfl) ?_
                  refine TL.gy (j := 4) (t := 27) rfl rfl rfl hg44 rfl (yld_lss rfl rfl rfl) ?_
                  refine TL.gy (j := 2) (t := 25) rfl rfl rfl hg43 rfl (yld_and_t rfl rfl hg44 rfl) ?_
                  exact TL.nil fun a h => ⟨h.weaken ⟨rfl, rfl, rfl, rfl, rfl, rfl, rfl, trivial⟩, Ext.refl _⟩
                ·
                  refine TL.gnu (j := 4) (t := 27) rfl rfl rfl hg44 rfl ?_
                  refine TL.gnu (j := 4) (t := 27) rfl rfl rfl hg44 rfl ?_
                  refine TL.gnu (j := 4) (t := 27) rfl rfl rfl hg44 rfl ?_
                  refine TL.gy (j := 2) (t := 25) rfl rfl rfl hg43 rfl (yld_and_f (b2 := decide (r25.1.Early < 0)) rfl rfl hg44 rfl) ?_
                  exact TL.nil fun a h => ⟨h.weaken ⟨rfl, rfl, rfl, rfl, rfl, rfl, rfl, trivial⟩, Ext.refl _⟩
              intro w45 hx46
              have hz48 := (hx46).size
              refine TL.yld rfl rfl (yld_or_f rfl rfl hg43 rfl) ?_
              exact TL.nil fun a h => ⟨h.weaken ⟨rfl, rfl, rfl, rfl, trivial⟩, hx46⟩
          intro w49 hx50
          have he51 : Ext w w49 := Ext.trans he41 hx50
          have hz52 := (hx50).size
          refine TL.done ?_
          refine NX.seq ?_
          refine WC.cond rfl ?_ ?_
          · intro hc53
            replace hF := bif_t hc53 hF
            refine WC.seq ?_
            refine WC.region ?_
            refine TL.yld rfl rfl (yld_assign rfl rfl) ?_
            refine TL.done ?_
            refine NX.seq ?_
            refine WC.ret' ?_
            refine NX.blk_r ?_
            refine NX.then_r ?_
            refine NX.then_r ?_
            refine NX.blk_r ?_
            refine NX.then_r ?_
            obtain rfl := Option.some.inj hF
            exact NX.end (rs := [.tmp 4]) (vs := [.bool false]) rfl ⟨rfl, trivial⟩ ⟨_, rfl, rfl, he51⟩
          · intro hc54
            replace hF := bif_f hc54 hF
            refine WC.skip' ?_
            refine NX.blk_n ?_
            refine NX.seq ?_
            refine WC.region ?_
            refine TL.yld rfl rfl (yld_move rfl rfl) ?_
            refine TL.yld rfl rfl (yld_add rfl rfl rfl) ?_
            refine TL.yld rfl rfl (yld_assign rfl rfl) ?_
            refine TL.done ?_
            refine NX.then_n ?_
            intro a hK; exact ⟨m8, Nat.lt_succ_self m8, (IntKind.wrap IntKind.i64 (i7 + 1)), hK.weaken ⟨rfl, rfl, rfl, trivial⟩, he51, (by omega), hF⟩
        · intro hc55
          replace hF := bif_f hc55 hF
          refine WC.exit' ?_
          refine NX.then_e ?_
          refine NX.then_e ?_
          refine NX.blk_hit ?_
          refine NX.seq ?_
          refine WC.seq ?_
          refine WC.region ?_
          refine TL.yld rfl rfl (yld_assign rfl rfl) ?_
          refine TL.done ?_
          refine NX.seq ?_
          refine WC.ret' ?_
          obtain rfl := Option.some.inj hF
          exact NX.end (rs := [.tmp 4]) (vs := [.bool true]) rfl ⟨rfl, trivial⟩ ⟨_, rfl, rfl, he6⟩

-- loop.example/g00861/spec.l03Arc
def F_spec_l03Arc (n : Nat) (a0_c : S_Cell) (a1_a : S_Arc) : Option Bool := (Option.bind (F_spec_l01In n a1_a.From 0 (IntKind.wrap IntKind.i64 ((IntKind.wrap IntKind.i64 (((a0_c.Pins.length : Int)) - 1)) - 1))) fun r25 => (Option.bind (bif (!r25) then (some true) else (Option.bind (F_spec_l01In n a1_a.To 0 (IntKind.wrap IntKind.i64 (((a0_c.Pins.length : Int)) - 1))) fun r31 => (some (!r31)))) fun c31 => (bif c31 then (some false) else (Option.bind (getI a0_c.Pins a1_a.From) fun x46 => (bif (a1_a.Kind == 1) then (Option.bind (bif ((!x46.Clock) && ((a1_a.To == (IntKind.wrap IntKind.i64 (((a0_c.Pins.length : Int)) - 1))))) then (Option.bind (F_spec_l01In n a1_a.Sense 1 3) fun r60 => (some r60)) else (some false)) fun c60 => (Option.bind (bif c60 then (Option.bind (F_spec_l03Tables n a1_a.Delay true) fun r73 => (some r73)) else (some false)) fun c73 => (Option.bind (bif c73 then (Option.bind (F_spec_l03Tables n a1_a.Slew true) fun r86 => (some r86)) else (some false)) fun c86 => (some c86)))) else (bif (a1_a.Kind == 2) then (bif (a1_a.Kind == 2) then (Option.bind (bif (((x46.Clock && ((a1_a.To == (IntKind.wrap IntKind.i64 (((a0_c.Pins.length : Int)) - 1)))))) && ((a1_a.Sense == 0))) then (Option.bind (F_spec_l03Tables n a1_a.Delay true) fun r112 => (some r112)) else (some false)) fun c112 => (Option.bind (bif c112 then (Option.bind (F_spec_l03Tables n a1_a.Slew true) fun r125 => (some r125)) else (some false)) fun c125 => (some c125))) else (bif (a1_a.Kind == 4) then (bif (a1_a.Kind == 4) then (Option.bind (bif (x46.Clock && (decide (a1_a.To < IntKind.wrap IntKind.i64 (((a0_c.Pins.length : Int)) - 1)))) then (Option.bind (getI a0_c.Pins a1_a.To) fun x146 => (some (!x146.Clock))) else (some false)) fun c146 => (Option.bind (bif (c146 && ((a1_a.Sense == 0))) then (Option.bind (F_spec_l03Tables n a1_a.Delay false) fun r166 => (some r166)) else (some false)) fun c166 => (some ((c166 && ((((a1_a.Slew.length : Int)) == 0))))))) else (some false)) else (bif (a1_a.Kind == 5) then (Option.bind (bif (x46.Clock && (decide (a1_a.To < IntKind.wrap IntKind.i64 (((a0_c.Pins.length : Int)) - 1)))) then (Option.bind (getI a0_c.Pins a1_a.To) fun x192 => (some (!x192.Clock))) else (some false)) fun c192 => (Option.bind (bif (c192 && ((a1_a.Sense == 0))) then (Option.bind (F_spec_l03Tables n a1_a.Delay false) fun r212 => (some r212)) else (some false)) fun c212 => (some ((c212 && ((((a1_a.Slew.length : Int)) == 0))))))) else (some false)))) else (bif (a1_a.Kind == 3) then (Option.bind (bif (((x46.Clock && ((a1_a.To == (IntKind.wrap IntKind.i64 (((a0_c.Pins.length : Int)) - 1)))))) && ((a1_a.Sense == 0))) then (Option.bind (F_spec_l03Tables n a1_a.Delay true) fun r243 => (some r243)) else (some false)) fun c243 => (Option.bind (bif c243 then (Option.bind (F_spec_l03Tables n a1_a.Slew true) fun r256 => (some r256)) else (some false)) fun c256 => (some c256))) else (bif (a1_a.Kind == 4) then (bif (a1_a.Kind == 4) then (Option.bind (bif (x46.Clock && (decide (a1_a.To < IntKind.wrap IntKind.i64 (((a0_c.Pins.length : Int)) - 1)))) then (Option.bind (getI a0_c.Pins a1_a.To) fun x277 => (some (!x277.Clock))) else (some false)) fun c277 => (Option.bind (bif (c277 && ((a1_a.Sense == 0))) then (Option.bind (F_spec_l03Tables n a1_a.Delay false) fun r297 => (some r297)) else (some false)) fun c297 => (some ((c297 && ((((a1_a.Slew.length : Int)) == 0))))))) else (some false)) else (bif (a1_a.Kind == 5) then (Option.bind (bif (x46.Clock && (decide (a1_a.To < IntKind.wrap IntKind.i64 (((a0_c.Pins.length : Int)) - 1)))) then (Option.bind (getI a0_c.Pins a1_a.To) fun x323 => (some (!x323.Clock))) else (some false)) fun c323 => (Option.bind (bif (c323 && ((a1_a.Sense == 0))) then (Option.bind (F_spec_l03Tables n a1_a.Delay false) fun r343 => (some r343)) else (some false)) fun c343 => (some ((c343 && ((((a1_a.Slew.length : Int)) == 0))))))) else (some false))))))))))
set_option maxHeartbeats 40000000 in
theorem W_spec_l03Arc {n : Nat} {a0_c : S_Cell} {a1_a : S_Arc} {r : Bool} {w : World} {v1 : Value} {v3 : Value} {v5 : Value} {v7 : Value} {v9 : Value} (hF : F_spec_l03Arc n a0_c a1_a = some r) (ha2 : slRep C_Pin w (Iv 0 w.heap.size) a0_c.Pins v1) (ha4 : slRep C_Arc w (Iv 0 w.heap.size) a0_c.Arcs v3) (ha6 : slRep (cInt .i64) w (Iv 0 w.heap.size) a0_c.Truth v5) (ha8 : slRep C_Table w (Iv 0 w.heap.size) a1_a.Delay v7) (ha10 : slRep C_Table w (Iv 0 w.heap.size) a1_a.Slew v9) :
    Calls Tryz.prog 29 [.agg #[.string a0_c.Name, .int .i64 a0_c.Kind, v1, v3, v5, .int .i64 a0_c.Leak, .int .i64 a0_c.Energy], .agg #[.int .i64 a1_a.Kind, .int .i64 a1_a.From, .int .i64 a1_a.To, .int .i64 a1_a.Sense, v7, v9]].toArray w (Ret fun u w2 => u = .bool r ∧ Ext w w2) := by
  refine calls_of Tryz.func29 rfl Tryz.ntmps29 ?_
  have he0 : Ext w w := Ext.refl w
  unfold F_spec_l03Arc at hF
  refine WC.seq ?_
  refine WC.region ?_
  refine TL.eff rfl rfl (eff_box rfl rfl) ?_
  rintro _ w12 ⟨b11, rfl, hn13⟩
  obtain ⟨hn13e, hn13s, hn13x, hb14⟩ := hn13
  have hb14 : Box w12 b11 [.string a0_c.Name, .int .i64 a0_c.Kind, v1, v3, v5, .int .i64 a0_c.Leak, .int .i64 a0_c.Energy] 32 := hb14
  have he16 : Ext w w12 := Ext.trans he0 hn13x
  have hz17 := (hn13x).size
  have hlo15 : w.heap.size ≤ b11 := by rw [hn13e]; exact (he0).size
  refine TL.eff rfl rfl (eff_box rfl rfl) ?_
  rintro _ w19 ⟨b18, rfl, hn20⟩
  obtain ⟨hn20e, hn20s, hn20x, hb21⟩ := hn20
  have hb21 : Box w19 b18 [.int .i64 a1_a.Kind, .int .i64 a1_a.From, .int .i64 a1_a.To, .int .i64 a1_a.Sense, v7, v9] 62 := hb21
  have he23 : Ext w w19 := Ext.trans he16 hn20x
  have hb14 := Box.ext hb14 hn20x
  have hz24 := (hn20x).size
  have hlo22 : w.heap.size ≤ b18 := by rw [hn20e]; exact (he16).size
  refine TL.yld rfl rfl (yld_assign rfl rfl) ?_
  refine TL.done ?_
  refine NX.seq ?_
  refine WC.seq ?_
  refine WC.region ?_
  refine TL.yld rfl rfl (yld_fieldAddr rfl fo_32_2 rfl) ?_
  refine TL.yld rfl rfl (yld_load1 2 rfl ag_29 rfl (Box.cells hb14) rfl rfl) ?_
  refine TL.yld rfl rfl (ye_len (c := C_Pin) rfl Tryz.underlying29 rfl (slRep.old ha2 he23 (Nat.le_refl _))) ?_
  refine TL.yld rfl rfl (yld_sub rfl rfl rfl) ?_
  refine TL.yld rfl rfl (yld_assign rfl rfl) ?_
  refine TL.done ?_
  refine NX.seq ?_
  refine WC.seq ?_
  refine WC.seq ?_
  refine WC.region ?_
  refine TL.yld rfl rfl (yld_fieldAddr rfl fo_62_1 rfl) ?_
  refine TL.yld rfl rfl (yld_load1 1 rfl ag_2 rfl (Box.cells hb21) rfl rfl) ?_
  refine TL.yld rfl rfl (yld_move rfl rfl) ?_
  refine TL.yld rfl rfl (yld_sub rfl rfl rfl) ?_
  obtain ⟨r25, hr26, hF⟩ := bsome hF
  refine TL.eff rfl rfl (eff_call rfl gf_28 rfl (W_spec_l01In hr26)) ?_
  rintro _ w27 ⟨rfl, hx28⟩
  have he29 : Ext w w27 := Ext.trans he23 hx28
  have hb14 := Box.ext hb14 hx28
  have hb21 := Box.ext hb21 hx28
  have hz30 := (hx28).size
  refine TL.yld rfl rfl (yld_not rfl rfl) ?_
  refine TL.yld rfl rfl (yld_move rfl rfl) ?_
  obtain ⟨c31, hb32, hF⟩ := bsome hF
  refine TL.cut 6 [(2, .pointer (some ⟨b11, 0, none⟩)), (3, .pointer (some ⟨b18, 0, none⟩)), (5, .int .i64 (IntKind.wrap IntKind.i64 (((a0_c.Pins.length : Int)) - 1))), (23, .bool c31)] (fun w' => Ext w27 w') ?_ ?_
  · rcases Bool.eq_false_or_eq_true (!r25) with hg33 | hg33
    ·
      rw [hg33] at hb32; simp only [cond_true, cond_false] at hb32
      refine TL.gnu (j := 6) (t := 17) rfl rfl rfl hg33 rfl ?_
      refine TL.gnu (j := 6) (t := 17) rfl rfl rfl hg33 rfl ?_
      refine TL.gnu (j := 6) (t := 17) rfl rfl rfl hg33 rfl ?_
      refine TL.gnu (j := 6) (t := 17) rfl rfl rfl hg33 rfl ?_
      refine TL.gnu (j := 6) (t := 17) rfl rfl rfl hg33 rfl ?_
      obtain rfl := Option.some.inj hb32
      refine TL.yld rfl rfl (yld_pick_t rfl rfl hg33 rfl) ?_
      exact TL.nil fun a h => ⟨h.weaken ⟨rfl, rfl, rfl, rfl, trivial⟩, Ext.refl _⟩
    ·
      rw [hg33] at hb32; simp only [cond_true, cond_false] at hb32
      replace hF := hb32
      refine TL.gy (j := 6) (t := 17) rfl rfl rfl hg33 rfl (yld_fieldAddr rfl fo_62_2 rfl) ?_
      refine TL.gy (j := 6) (t := 17) rfl rfl rfl hg33 rfl (yld_load1 2 rfl ag_2 rfl (Box.cells hb21) rfl rfl) ?_
      refine TL.gy (j := 6) (t := 17) rfl rfl rfl hg33 rfl (yld_move rfl rfl) ?_
      obtain ⟨r34, hr35, hF⟩ := bsome hF
      refine TL.ge (j := 6) (t := 17) rfl rfl rfl hg33 rfl (eff_call rfl gf_28 rfl (W_spec_l01In hr35)) ?_
      rintro _ w36 ⟨rfl, hx37⟩
      have hb14 := Box.ext hb14 hx37
      have hb21 := Box.ext hb21 hx37
      have hz39 := (hx37).size
      refine TL.gy (j := 6) (t := 17) rfl rfl rfl hg33 rfl (yld_not rfl rfl) ?_
      obtain rfl := Option.some.inj hF
      refine TL.yld rfl rfl (yld_pick_f rfl rfl hg33 rfl) ?_
      exact TL.nil fun a h => ⟨h.weaken ⟨rfl, rfl, rfl, rfl, trivial⟩, hx37⟩
  intro w40 hx41
  have he42 : Ext w w40 := Ext.trans he29 hx41
  have hb14 := Box.ext hb14 hx41
  have hb21 := Box.ext hb21 hx41
  have hz43 := (hx41).size
  refine TL.done ?_
  refine NX.seq ?_
  refine WC.cond rfl ?_ ?_
  · intro hc44
    replace hF := bif_t hc44 hF
    refine WC.seq ?_
    refine WC.region ?_
    refine TL.yld rfl rfl (yld_assign rfl rfl) ?_
    refine TL.done ?_
    refine NX.seq ?_
    refine WC.ret' ?_
    refine NX.then_r ?_
    obtain rfl := Option.some.inj hF
    exact NX.end (rs := [.tmp 4]) (vs := [.bool false]) rfl ⟨rfl, trivial⟩ ⟨_, rfl, rfl, he42⟩
  · intro hc45
    replace hF := bif_f hc45 hF
    refine WC.skip' ?_
    refine NX.seq ?_
    refine WC.seq ?_
    refine WC.region ?_
    refine TL.yld rfl rfl (yld_fieldAddr rfl fo_32_2 rfl) ?_
    refine TL.yld rfl rfl (yld_load1 2 rfl ag_29 rfl (Box.cells hb14) rfl rfl) ?_
    refine TL.yld rfl rfl (yld_fieldAddr rfl fo_62_1 rfl) ?_
    refine TL.yld rfl rfl (yld_load1 1 rfl ag_2 rfl (Box.cells hb21) rfl rfl) ?_
    obtain ⟨x46, hy47, hF⟩ := bsome hF
    refine TL.ye rfl rfl (ye_index (c := C_Pin) rfl Tryz.underlying29 cn_67 rfl rfl (slRep.old ha2 he42 (Nat.le_refl _)) hy47) ?_
    rintro _ ⟨b48, o49, us50, rfl, hib53, hr51, hcl52⟩
    have hib53 : 0 ≤ b48 ∧ b48 < w.heap.size := ⟨hib53.1, by have := hib53.2; omega⟩
    obtain rfl := C_Pin_open hr51
    refine TL.yld rfl rfl (yld_fieldAddr rfl fo_67_3 rfl) ?_
    refine TL.yld rfl rfl (yld_load1 3 rfl ag_4 rfl hcl52 rfl rfl) ?_
    refine TL.yld rfl rfl (yld_assign rfl rfl) ?_
    refine TL.done ?_
    refine NX.seq ?_
    refine WC.seq ?_
    refine WC.seq ?_
    refine WC.region ?_
    refine TL.yld rfl rfl (yld_fieldAddr rfl fo_62_0 rfl) ?_
    refine TL.yld rfl rfl (yld_load1 0 rfl ag_2 rfl (Box.cells hb21) rfl rfl) ?_
    refine TL.done ?_
    refine NX.seq ?_
    refine WC.block ?_
    refine WC.seq ?_
    refine WC.region ?_
    refine TL.yld rfl rfl (yld_eql rfl rfl rfl) ?_
    refine TL.yld rfl rfl (yld_assign rfl rfl) ?_
    refine TL.done ?_
    refine NX.seq ?_
    refine WC.cond rfl ?_ ?_
    · intro hc54
      replace hF := bif_t hc54 hF
      refine WC.seq ?_
      refine WC.region ?_
      refine TL.yld rfl rfl (yld_move rfl rfl) ?_
      refine TL.yld rfl rfl (yld_not rfl rfl) ?_
      refine TL.yld rfl rfl (yld_move rfl rfl) ?_
      refine TL.cut 5 [(3, .pointer (some ⟨b18, 0, none⟩)), (42, .bool (((!x46.Clock) && ((a1_a.To == (IntKind.wrap IntKind.i64 (((a0_c.Pins.length : Int)) - 1)))))))] (fun w' => Ext w40 w') ?_ ?_
      · rcases Bool.eq_false_or_eq_true (!x46.Clock) with hg55 | hg55
        ·
          refine TL.gy (j := 2) (t := 37) rfl rfl rfl hg55 rfl (yld_fieldAddr rfl fo_62_2 rfl) ?_
          refine TL.gy (j := 2) (t := 37) rfl rfl rfl hg55 rfl (yld_load1 2 rfl ag_2 rfl (Box.cells hb21) rfl rfl) ?_
          refine TL.gy (j := 2) (t := 37) rfl rfl rfl hg55 rfl (yld_move rfl rfl) ?_
          refine TL.gy (j := 2) (t := 37) rfl rfl rfl hg55 rfl (yld_eql rfl rfl rfl) ?_
          refine TL.yld rfl rfl (yld_and_t rfl rfl hg55 rfl) ?_
          exact TL.nil fun a h => ⟨h.weaken ⟨rfl, rfl, trivial⟩, Ext.refl _⟩
        ·
          refine TL.gnu (j := 2) (t := 37) rfl rfl rfl hg55 rfl ?_
          refine TL.gnu (j := 2) (t := 37) rfl rfl rfl hg55 rfl ?_
          refine TL.gnu (j := 2) (t := 37) rfl rfl rfl hg55 rfl ?_
          refine TL.gnu (j := 2) (t := 37) rfl rfl rfl hg55 rfl ?_
          refine TL.yld rfl rfl (yld_and_f (b2 := (a1_a.To == (IntKind.wrap IntKind.i64 (((a0_c.Pins.length : Int)) - 1)))) rfl rfl hg55 rfl) ?_
          exact TL.nil fun a h => ⟨h.weaken ⟨rfl, rfl, trivial⟩, Ext.refl _⟩
      intro w56 hx57
      have he58 : Ext w w56 := Ext.trans he42 hx57
      have hb14 := Box.ext hb14 hx57
      have hb21 := Box.ext hb21 hx57
      have hz59 := (hx57).size
      refine TL.yld rfl rfl (yld_move rfl rfl) ?_
      obtain ⟨c60, hb61, hF⟩ := bsome hF
      refine TL.cut 4 [(3, .pointer (some ⟨b18, 0, none⟩)), (47, .bool c60)] (fun w' => Ext w56 w') ?_ ?_
      · rcases Bool.eq_false_or_eq_true (((!x46.Clock) && ((a1_a.To == (IntKind.wrap IntKind.i64 (((a0_c.Pins.length : Int)) - 1)))))) with hg62 | hg62
        ·
          rw [hg62] at hb61; simp only [cond_true, cond_false] at hb61
          replace hF := hb61
          refine TL.gy (j := 8) (t := 43) rfl rfl rfl hg62 rfl (yld_fieldAddr rfl fo_62_3 rfl) ?_
          refine TL.gy (j := 8) (t := 43) rfl rfl rfl hg62 rfl (yld_load1 3 rfl ag_2 rfl (Box.cells hb21) rfl rfl) ?_
          obtain ⟨r63, hr64, hF⟩ := bsome hF
          refine TL.ge (j := 8) (t := 43) rfl rfl rfl hg62 rfl (eff_call rfl gf_28 rfl (W_spec_l01In hr64)) ?_
          rintro _ w65 ⟨rfl, hx66⟩
          have hb14 := Box.ext hb14 hx66
          have hb21 := Box.ext hb21 hx66
          have hz68 := (hx66).size
          obtain rfl := Option.some.inj hF
          refine TL.yld rfl rfl (yld_pick_t rfl rfl hg62 rfl) ?_
          exact TL.nil fun a h => ⟨h.weaken ⟨rfl, rfl, trivial⟩, hx66⟩
        ·
          rw [hg62] at hb61; simp only [cond_true, cond_false] at hb61
          refine TL.gnu (j := 8) (t := 43) rfl rfl rfl hg62 rfl ?_
          refine TL.gnu (j := 8) (t := 43) rfl rfl rfl hg62 rfl ?_
          refine TL.gnu (j := 8) (t := 43) rfl rfl rfl hg62 rfl ?_
          obtain rfl := Option.some.inj hb61
          refine TL.yld rfl rfl (yld_pick_f rfl rfl hg62 rfl) ?_
          exact TL.nil fun a h => ⟨h.weaken ⟨rfl, rfl, trivial⟩, Ext.refl _⟩
      intro w69 hx70
      have he71 : Ext w w69 := Ext.trans he58 hx70
      have hb14 := Box.ext hb14 hx70
      have hb21 := Box.ext hb21 hx70
      have hz72 := (hx70).size
      refine TL.yld rfl rfl (yld_move rfl rfl) ?_
      obtain ⟨c73, hb74, hF⟩ := bsome hF
      refine TL.cut 4 [(3, .pointer (some ⟨b18, 0, none⟩)), (52, .bool c73)] (fun w' => Ext w69 w') ?_ ?_
      · rcases Bool.eq_false_or_eq_true c60 with hg75 | hg75
        ·
          rw [hg75] at hb74; simp only [cond_true, cond_false] at hb74
          replace hF := hb74
          refine TL.gy (j := 13) (t := 48) rfl rfl rfl hg75 rfl (yld_fieldAddr rfl fo_62_4 rfl) ?_
          refine TL.gy (j := 13) (t := 48) rfl rfl rfl hg75 rfl (yld_load1 4 rfl ag_60 rfl (Box.cells hb21) rfl rfl) ?_
          obtain ⟨r76, hr77, hF⟩ := bsome hF
          refine TL.ge (j := 13) (t := 48) rfl rfl rfl hg75 rfl (eff_call rfl gf_44 rfl (W_spec_l03Tables hr77 ((slRep.old ha8 he71 (Nat.le_refl _)).wide (Nat.le_refl _) (he71).size))) ?_
          rintro _ w78 ⟨rfl, hx79⟩
          have hb14 := Box.ext hb14 hx79
          have hb21 := Box.ext hb21 hx79
          have hz81 := (hx79).size
          obtain rfl := Option.some.inj hF
          refine TL.yld rfl rfl (yld_pick_t rfl rfl hg75 rfl) ?_
          exact TL.nil fun a h => ⟨h.weaken ⟨rfl, rfl, trivial⟩, hx79⟩
        ·
          rw [hg75] at hb74; simp only [cond_true, cond_false] at hb74
          refine TL.gnu (j := 13) (t := 48) rfl rfl rfl hg75 rfl ?_
          refine TL.gnu (j := 13) (t := 48) rfl rfl rfl hg75 rfl ?_
          refine TL.gnu (j := 13) (t := 48) rfl rfl rfl hg75 rfl ?_
          obtain rfl := Option.some.inj hb74
          refine TL.yld rfl rfl (yld_pick_f rfl rfl hg75 rfl) ?_
          exact TL.nil fun a h => ⟨h.weaken ⟨rfl, rfl, trivial⟩, Ext.refl _⟩
      intro w82 hx83
      have he84 : Ext w w82 := Ext.trans he71 hx83
      have hb14 := Box.ext hb14 hx83
      have hb21 := Box.ext hb21 hx83
      have hz85 := (hx83).size
      refine TL.yld rfl rfl (yld_move rfl rfl) ?_
      obtain ⟨c86, hb87, hF⟩ := bsome hF
      refine TL.cut 4 [(57, .bool c86)] (fun w' => Ext w82 w') ?_ ?_
      · rcases Bool.eq_false_or_eq_true c73 with hg88 | hg88
        ·
          rw [hg88] at hb87; simp only [cond_true, cond_false] at hb87
          replace hF := hb87
          refine TL.gy (j := 18) (t := 53) rfl rfl rfl hg88 rfl (yld_fieldAddr rfl fo_62_5 rfl) ?_
          refine TL.gy (j := 18) (t := 53) rfl rfl rfl hg88 rfl (yld_load1 5 rfl ag_60 rfl (Box.cells hb21) rfl rfl) ?_
          obtain ⟨r89, hr90, hF⟩ := bsome hF
          refine TL.ge (j := 18) (t := 53) rfl rfl rfl hg88 rfl (eff_call rfl gf_44 rfl (W_spec_l03Tables hr90 ((slRep.old ha10 he84 (Nat.le_refl _)).wide (Nat.le_refl _) (he84).size))) ?_
          rintro _ w91 ⟨rfl, hx92⟩
          have hb14 := Box.ext hb14 hx92
          have hb21 := Box.ext hb21 hx92
          have hz94 := (hx92).size
          obtain rfl := Option.some.inj hF
          refine TL.yld rfl rfl (yld_pick_t rfl rfl hg88 rfl) ?_
          exact TL.nil fun a h => ⟨h.weaken ⟨rfl, trivial⟩, hx92⟩
        ·
          rw [hg88] at hb87; simp only [cond_true, cond_false] at hb87
          refine TL.gnu (j := 18) (t := 53) rfl rfl rfl hg88 rfl ?_
          refine TL.gnu (j := 18) (t := 53) rfl rfl rfl hg88 rfl ?_
          refine TL.gnu (j := 18) (t := 53) rfl rfl rfl hg88 rfl ?_
          obtain rfl := Option.some.inj hb87
          refine TL.yld rfl rfl (yld_pick_f rfl rfl hg88 rfl) ?_
          exact TL.nil fun a h => ⟨h.weaken ⟨rfl, trivial⟩, Ext.refl _⟩
      intro w95 hx96
      have he97 : Ext w w95 := Ext.trans he84 hx96
      have hb14 := Box.ext hb14 hx96
      have hb21 := Box.ext hb21 hx96
      have hz98 := (hx96).size
      refine TL.yld rfl rfl (yld_assign rfl rfl) ?_
      refine TL.done ?_
      refine NX.seq ?_
      refine WC.ret' ?_
      refine NX.blk_r ?_
      refine NX.then_r ?_
      obtain rfl := Option.some.inj hF
      exact NX.end (rs := [.tmp 4]) (vs := [.bool c86]) rfl ⟨rfl, trivial⟩ ⟨_, rfl, rfl, he97⟩
    · intro hc99
      replace hF := bif_f hc99 hF
      refine WC.seq ?_
      refine WC.seq ?_
      refine WC.region ?_
      refine TL.yld rfl rfl (yld_eql rfl rfl rfl) ?_
      refine TL.yld rfl rfl (yld_assign rfl rfl) ?_
      refine TL.done ?_
      refine NX.seq ?_
      refine WC.cond rfl ?_ ?_
      · intro hc100
        replace hF := bif_t hc100 hF
        refine WC.skip' ?_
        refine NX.seq ?_
        refine WC.cond rfl ?_ ?_
        · intro hc101
          replace hF := bif_t hc101 hF
          refine WC.seq ?_
          refine WC.region ?_
          refine TL.yld rfl rfl (yld_move rfl rfl) ?_
          refine TL.yld rfl rfl (yld_move rfl rfl) ?_
          refine TL.cut 5 [(3, .pointer (some ⟨b18, 0, none⟩)), (67, .bool ((x46.Clock && ((a1_a.To == (IntKind.wrap IntKind.i64 (((a0_c.Pins.length : Int)) - 1)))))))] (fun w' => Ext w40 w') ?_ ?_
          · rcases Bool.eq_false_or_eq_true x46.Clock with hg102 | hg102
            ·
              refine TL.gy (j := 1) (t := 62) rfl rfl rfl hg102 rfl (yld_fieldAddr rfl fo_62_2 rfl) ?_
              refine TL.gy (j := 1) (t := 62) rfl rfl rfl hg102 rfl (yld_load1 2 rfl ag_2 rfl (Box.cells hb21) rfl rfl) ?_
              refine TL.gy (j := 1) (t := 62) rfl rfl rfl hg102 rfl (yld_move rfl rfl) ?_
              refine TL.gy (j := 1) (t := 62) rfl rfl rfl hg102 rfl (yld_eql rfl rfl rfl) ?_
              refine TL.yld rfl rfl (yld_and_t rfl rfl hg102 rfl) ?_
              exact TL.nil fun a h => ⟨h.weaken ⟨rfl, rfl, trivial⟩, Ext.refl _⟩
            ·
              refine TL.gnu (j := 1) (t := 62) rfl rfl rfl hg102 rfl ?_
              refine TL.gnu (j := 1) (t := 62) rfl rfl rfl hg102 rfl ?_
              refine TL.gnu (j := 1) (t := 62) rfl rfl rfl hg102 rfl ?_
              refine TL.gnu (j := 1) (t := 62) rfl rfl rfl hg102 rfl ?_
              refine TL.yld rfl rfl (yld_and_f (b2 := (a1_a.To == (IntKind.wrap IntKind.i64 (((a0_c.Pins.length : Int)) - 1)))) rfl rfl hg102 rfl) ?_
              exact TL.nil fun a h => ⟨h.weaken ⟨rfl, rfl, trivial⟩, Ext.refl _⟩
          intro w103 hx104
          have he105 : Ext w w103 := Ext.trans he42 hx104
          have hb14 := Box.ext hb14 hx104
          have hb21 := Box.ext hb21 hx104
          have hz106 := (hx104).size
          refine TL.yld rfl rfl (yld_move rfl rfl) ?_
          refine TL.cut 4 [(3, .pointer (some ⟨b18, 0, none⟩)), (72, .bool ((((x46.Clock && ((a1_a.To == (IntKind.wrap IntKind.i64 (((a0_c.Pins.length : Int)) - 1)))))) && ((a1_a.Sense == 0)))))] (fun w' => Ext w103 w') ?_ ?_
          · rcases Bool.eq_false_or_eq_true ((x46.Clock && ((a1_a.To == (IntKind.wrap IntKind.i64 (((a0_c.Pins.length : Int)) - 1)))))) with hg107 | hg107
            ·
              refine TL.gy (j := 7) (t := 68) rfl rfl rfl hg107 rfl (yld_fieldAddr rfl fo_62_3 rfl) ?_
              refine TL.gy (j := 7) (t := 68) rfl rfl rfl hg107 rfl (yld_load1 3 rfl ag_2 rfl (Box.cells hb21) rfl rfl) ?_
              refine TL.gy (j := 7) (t := 68) rfl rfl rfl hg107 rfl (yld_eql rfl rfl rfl) ?_
              refine TL.yld rfl rfl (yld_and_t rfl rfl hg107 rfl) ?_
              exact TL.nil fun a h => ⟨h.weaken ⟨rfl, rfl, trivial⟩, Ext.refl _⟩
            ·
              refine TL.gnu (j := 7) (t := 68) rfl rfl rfl hg107 rfl ?_
              refine TL.gnu (j := 7) (t := 68) rfl rfl rfl hg107 rfl ?_
              refine TL.gnu (j := 7) (t := 68) rfl rfl rfl hg107 rfl ?_
              refine TL.yld rfl rfl (yld_and_f (b2 := (a1_a.Sense == 0)) rfl rfl hg107 rfl) ?_
              exact TL.nil fun a h => ⟨h.weaken ⟨rfl, rfl, trivial⟩, Ext.refl _⟩
          intro w108 hx109
          have he110 : Ext w w108 := Ext.trans he105 hx109
          have hb14 := Box.ext hb14 hx109
          have hb21 := Box.ext hb21 hx109
          have hz111 := (hx109).size
          refine TL.yld rfl rfl (yld_move rfl rfl) ?_
          obtain ⟨c112, hb113, hF⟩ := bsome hF
          refine TL.cut 4 [(3, .pointer (some ⟨b18, 0, none⟩)), (77, .bool c112)] (fun w' => Ext w108 w') ?_ ?_
          · rcases Bool.eq_false_or_eq_true ((((x46.Clock && ((a1_a.To == (IntKind.wrap IntKind.i64 (((a0_c.Pins.length : Int)) - 1)))))) && ((a1_a.Sense == 0)))) with hg114 | hg114
            ·
              rw [hg114] at hb113; simp only [cond_true, cond_false] at hb113
              replace hF := hb113
              refine TL.gy (j := 12) (t := 73) rfl rfl rfl hg114 rfl (yld_fieldAddr rfl fo_62_4 rfl) ?_
              refine TL.gy (j := 12) (t := 73) rfl rfl rfl hg114 rfl (yld_load1 4 rfl ag_60 rfl (Box.cells hb21) rfl rfl) ?_
              obtain ⟨r115, hr116, hF⟩ := bsome hF
              refine TL.ge (j := 12) (t := 73) rfl rfl rfl hg114 rfl (eff_call rfl gf_44 rfl (W_spec_l03Tables hr116 ((slRep.old ha8 he110 (Nat.le_refl _)).wide (Nat.le_refl _) (he110).size))) ?_
              rintro _ w117 ⟨rfl, hx118⟩
              have hb14 := Box.ext hb14 hx118
              have hb21 := Box.ext hb21 hx118
              have hz120 := (hx118).size
              obtain rfl := Option.some.inj hF
              refine TL.yld rfl rfl (yld_pick_t rfl rfl hg114 rfl) ?_
              exact TL.nil fun a h => ⟨h.weaken ⟨rfl, rfl, trivial⟩, hx118⟩
            ·
              rw [hg114] at hb113; simp only [cond_true, cond_false] at hb113
              refine TL.gnu (j := 12) (t := 73) rfl rfl rfl hg114 rfl ?_
              refine TL.gnu (j := 12) (t := 73) rfl rfl rfl hg114 rfl ?_
              refine TL.gnu (j := 12) (t := 73) rfl rfl rfl hg114 rfl ?_
              obtain rfl := Option.some.inj hb113
              refine TL.yld rfl rfl (yld_pick_f rfl rfl hg114 rfl) ?_
              exact TL.nil fun a h => ⟨h.weaken ⟨rfl, rfl, trivial⟩, Ext.refl _⟩
          intro w121 hx122
          have he123 : Ext w w121 := Ext.trans he110 hx122
          have hb14 := Box.ext hb14 hx122
          have hb21 := Box.ext hb21 hx122
          have hz124 := (hx122).size
          refine TL.yld rfl rfl (yld_move rfl rfl) ?_
          obtain ⟨c125, hb126, hF⟩ := bsome hF
          refine TL.cut 4 [(82, .bool c125)] (fun w' => Ext w121 w') ?_ ?_
          · rcases Bool.eq_false_or_eq_true c112 with hg127 | hg127
            ·
              rw [hg127] at hb126; simp only [cond_true, cond_false] at hb126
              replace hF := hb126
              refine TL.gy (j := 17) (t := 78) rfl rfl rfl hg127 rfl (yld_fieldAddr rfl fo_62_5 rfl) ?_
              refine TL.gy (j := 17) (t := 78) rfl rfl rfl hg127 rfl (yld_load1 5 rfl ag_60 rfl (Box.cells hb21) rfl rfl) ?_
              obtain ⟨r128, hr129, hF⟩ := bsome hF
              refine TL.ge (j := 17) (t := 78) rfl rfl rfl hg127 rfl (eff_call rfl gf_44 rfl (W_spec_l03Tables hr129 ((slRep.old ha10 he123 (Nat.le_refl _)).wide (Nat.le_refl _) (he123).size))) ?_
              rintro _ w130 ⟨rfl, hx131⟩
              have hb14 := Box.ext hb14 hx131
              have hb21 := Box.ext hb21 hx131
              have hz133 := (hx131).size
              obtain rfl := Option.some.inj hF
              refine TL.yld rfl rfl (yld_pick_t rfl rfl hg127 rfl) ?_
              exact TL.nil fun a h => ⟨h.weaken ⟨rfl, trivial⟩, hx131⟩
            ·
              rw [hg127] at hb126; simp only [cond_true, cond_false] at hb126
              refine TL.gnu (j := 17) (t := 78) rfl rfl rfl hg127 rfl ?_
              refine TL.gnu (j := 17) (t := 78) rfl rfl rfl hg127 rfl ?_
              refine TL.gnu (j := 17) (t := 78) rfl rfl rfl hg127 rfl ?_
              obtain rfl := Option.some.inj hb126
              refine TL.yld rfl rfl (yld_pick_f rfl rfl hg127 rfl) ?_
              exact TL.nil fun a h => ⟨h.weaken ⟨rfl, trivial⟩, Ext.refl _⟩
          intro w134 hx135
          have he136 : Ext w w134 := Ext.trans he123 hx135
          have hb14 := Box.ext hb14 hx135
          have hb21 := Box.ext hb21 hx135
          have hz137 := (hx135).size
          refine TL.yld rfl rfl (yld_assign rfl rfl) ?_
          refine TL.done ?_
          refine NX.seq ?_
          refine WC.ret' ?_
          refine NX.blk_r ?_
          refine NX.then_r ?_
          obtain rfl := Option.some.inj hF
          exact NX.end (rs := [.tmp 4]) (vs := [.bool c125]) rfl ⟨rfl, trivial⟩ ⟨_, rfl, rfl, he136⟩
        · intro hc138
          replace hF := bif_f hc138 hF
          refine WC.seq ?_
          refine WC.seq ?_
          refine WC.region ?_
          refine TL.yld rfl rfl (yld_eql rfl rfl rfl) ?_
          refine TL.yld rfl rfl (yld_assign rfl rfl) ?_
          refine TL.done ?_
          refine NX.seq ?_
          refine WC.cond rfl ?_ ?_
          · intro hc139
            replace hF := bif_t hc139 hF
            refine WC.skip' ?_
            refine NX.seq ?_
            refine WC.cond rfl ?_ ?_
            · intro hc140
              replace hF := bif_t hc140 hF
              refine WC.seq ?_
              refine WC.region ?_
              refine TL.yld rfl rfl (yld_move rfl rfl) ?_
              refine TL.yld rfl rfl (yld_move rfl rfl) ?_
              refine TL.cut 5 [(2, .pointer (some ⟨b11, 0, none⟩)), (3, .pointer (some ⟨b18, 0, none⟩)), (92, .bool ((x46.Clock && (decide (a1_a.To < IntKind.wrap IntKind.i64 (((a0_c.Pins.length : Int)) - 1))))))] (fun w' => Ext w40 w') ?_ ?_
              · rcases Bool.eq_false_or_eq_true x46.Clock with hg141 | hg141
                ·
                  refine TL.gy (j := 1) (t := 87) rfl rfl rfl hg141 rfl (yld_fieldAddr rfl fo_62_2 rfl) ?_
                  refine TL.gy (j := 1) (t := 87) rfl rfl rfl hg141 rfl (yld_load1 2 rfl ag_2 rfl (Box.cells hb21) rfl rfl) ?_
                  refine TL.gy (j := 1) (t := 87) rfl rfl rfl hg141 rfl (yld_move rfl rfl) ?_
                  refine TL.gy (j := 1) (t := 87) rfl rfl rfl hg141 rfl (yld_lss rfl rfl rfl) ?_
                  refine TL.yld rfl rfl (yld_and_t rfl rfl hg141 rfl) ?_
                  exact TL.nil fun a h => ⟨h.weaken ⟨rfl, rfl, rfl, trivial⟩, Ext.refl _⟩
                ·
                  refine TL.gnu (j := 1) (t := 87) rfl rfl rfl hg141 rfl ?_
                  refine TL.gnu (j := 1) (t := 87) rfl rfl rfl hg141 rfl ?_
                  refine TL.gnu (j := 1) (t := 87) rfl rfl rfl hg141 rfl ?_
                  refine TL.gnu (j := 1) (t := 87) rfl rfl rfl hg141 rfl ?_
                  refine TL.yld rfl rfl (yld_and_f (b2 := decide (a1_a.To < IntKind.wrap IntKind.i64 (((a0_c.Pins.length : Int)) - 1))) rfl rfl hg141 rfl) ?_
                  exact TL.nil fun a h => ⟨h.weaken ⟨rfl, rfl, rfl, trivial⟩, Ext.refl _⟩
              intro w142 hx143
              have he144 : Ext w w142 := Ext.trans he42 hx143
              have hb14 := Box.ext hb14 hx143
              have hb21 := Box.ext hb21 hx143
              have hz145 := (hx143).size
              refine TL.yld rfl rfl (yld_move rfl rfl) ?_
              obtain ⟨c146, hb147, hF⟩ := bsome hF
              refine TL.cut 9 [(3, .pointer (some ⟨b18, 0, none⟩)), (102, .bool c146)] (fun w' => Ext w142 w') ?_ ?_
              · rcases Bool.eq_false_or_eq_true ((x46.Clock && (decide (a1_a.To < IntKind.wrap IntKind.i64 (((a0_c.Pins.length : Int)) - 1))))) with hg148 | hg148
                ·
                  rw [hg148] at hb147; simp only [cond_true, cond_false] at hb147
                  replace hF := hb147
                  refine TL.gy (j := 7) (t := 93) rfl rfl rfl hg148 rfl (yld_fieldAddr rfl fo_32_2 rfl) ?_
                  refine TL.gy (j := 7) (t := 93) rfl rfl rfl hg148 rfl (yld_load1 2 rfl ag_29 rfl (Box.cells hb14) rfl rfl) ?_
                  refine TL.gy (j := 7) (t := 93) rfl rfl rfl hg148 rfl (yld_fieldAddr rfl fo_62_2 rfl) ?_
                  refine TL.gy (j := 7) (t := 93) rfl rfl rfl hg148 rfl (yld_load1 2 rfl ag_2 rfl (Box.cells hb21) rfl rfl) ?_
                  obtain ⟨x149, hy150, hF⟩ := bsome hF
                  refine TL.yeg (j := 7) (t := 93) rfl rfl rfl hg148 rfl (ye_index (c := C_Pin) rfl Tryz.underlying29 cn_67 rfl rfl (slRep.old ha2 he144 (Nat.le_refl _)) hy150) ?_
                  rintro _ ⟨b151, o152, us153, rfl, hib156, hr154, hcl155⟩
                  have hib156 : 0 ≤ b151 ∧ b151 < w.heap.size := ⟨hib156.1, by have := hib156.2; omega⟩
                  obtain rfl := C_Pin_open hr154
                  refine TL.gy (j := 7) (t := 93) rfl rfl rfl hg148 rfl (yld_fieldAddr rfl fo_67_3 rfl) ?_
                  refine TL.gy (j := 7) (t := 93) rfl rfl rfl hg148 rfl (yld_load1 3 rfl ag_4 rfl hcl155 rfl rfl) ?_
                  refine TL.gy (j := 7) (t := 93) rfl rfl rfl hg148 rfl (yld_not rfl rfl) ?_
                  obtain rfl := Option.some.inj hF
                  refine TL.yld rfl rfl (yld_pick_t rfl rfl hg148 rfl) ?_
                  exact TL.nil fun a h => ⟨h.weaken ⟨rfl, rfl, trivial⟩, Ext.refl _⟩
                ·
                  rw [hg148] at hb147; simp only [cond_true, cond_false] at hb147
                  refine TL.gnu (j := 7) (t := 93) rfl rfl rfl hg148 rfl ?_
                  refine TL.gnu (j := 7) (t := 93) rfl rfl rfl hg148 rfl ?_
                  refine TL.gnu (j := 7) (t := 93) rfl rfl rfl hg148 rfl ?_
                  refine TL.gnu (j := 7) (t := 93) rfl rfl rfl hg148 rfl ?_
                  refine TL.gnu (j := 7) (t := 93) rfl rfl rfl hg148 rfl ?_
                  refine TL.gnu (j := 7) (t := 93) rfl rfl rfl hg148 rfl ?_
                  refine TL.gnu (j := 7) (t := 93) rfl rfl rfl hg148 rfl ?_
                  refine TL.gnu (j := 7) (t := 93) rfl rfl rfl hg148 rfl ?_
                  obtain rfl := Option.some.inj hb147
                  refine TL.yld rfl rfl (yld_pick_f rfl rfl hg148 rfl) ?_
                  exact TL.nil fun a h => ⟨h.weaken ⟨rfl, rfl, trivial⟩, Ext.refl _⟩
              intro w157 hx158
              have he159 : Ext w w157 := Ext.trans he144 hx158
              have hb14 := Box.ext hb14 hx158
              have hb21 := Box.ext hb21 hx158
              have hz160 := (hx158).size
              refine TL.yld rfl rfl (yld_move rfl rfl) ?_
              refine TL.cut 4 [(3, .pointer (some ⟨b18, 0, none⟩)), (107, .bool ((c146 && ((a1_a.Sense == 0)))))] (fun w' => Ext w157 w') ?_ ?_
              · rcases Bool.eq_false_or_eq_true c146 with hg161 | hg161
                ·
                  refine TL.gy (j := 17) (t := 103) rfl rfl rfl hg161 rfl (yld_fieldAddr rfl fo_62_3 rfl) ?_
                  refine TL.gy (j := 17) (t := 103) rfl rfl rfl hg161 rfl (yld_load1 3 rfl ag_2 rfl (Box.cells hb21) rfl rfl) ?_
                  refine TL.gy (j := 17) (t := 103) rfl rfl rfl hg161 rfl (yld_eql rfl rfl rfl) ?_
                  refine TL.yld rfl rfl (yld_and_t rfl rfl hg161 rfl) ?_
                  exact TL.nil fun a h => ⟨h.weaken ⟨rfl, rfl, trivial⟩, Ext.refl _⟩
                ·
                  refine TL.gnu (j := 17) (t := 103) rfl rfl rfl hg161 rfl ?_
                  refine TL.gnu (j := 17) (t := 103) rfl rfl rfl hg161 rfl ?_
                  refine TL.gnu (j := 17) (t := 103) rfl rfl rfl hg161 rfl ?_
                  refine TL.yld rfl rfl (yld_and_f (b2 := (a1_a.Sense == 0)) rfl rfl hg161 rfl) ?_
                  exact TL.nil fun a h => ⟨h.weaken ⟨rfl, rfl, trivial⟩, Ext.refl _⟩
              intro w162 hx163
              have he164 : Ext w w162 := Ext.trans he159 hx163
              have hb14 := Box.ext hb14 hx163
              have hb21 := Box.ext hb21 hx163
              have hz165 := (hx163).size
              refine TL.yld rfl rfl (yld_move rfl rfl) ?_
              obtain ⟨c166, hb167, hF⟩ := bsome hF
              refine TL.cut 4 [(3, .pointer (some ⟨b18, 0, none⟩)), (112, .bool c166)] (fun w' => Ext w162 w') ?_ ?_
              · rcases Bool.eq_false_or_eq_true ((c146 && ((a1_a.Sense == 0)))) with hg168 | hg168
                ·
                  rw [hg168] at hb167; simp only [cond_true, cond_false] at hb167
                  replace hF := hb167
                  refine TL.gy (j := 22) (t := 108) rfl rfl rfl hg168 rfl (yld_fieldAddr rfl fo_62_4 rfl) ?_
                  refine TL.gy (j := 22) (t := 108) rfl rfl rfl hg168 rfl (yld_load1 4 rfl ag_60 rfl (Box.cells hb21) rfl rfl) ?_
                  obtain ⟨r169, hr170, hF⟩ := bsome hF
                  refine TL.ge (j := 22) (t := 108) rfl rfl rfl hg168 rfl (eff_call rfl gf_44 rfl (W_spec_l03Tables hr170 ((slRep.old ha8 he164 (Nat.le_refl _)).wide (Nat.le_refl _) (he164).size))) ?_
                  rintro _ w171 ⟨rfl, hx172⟩
                  have hb14 := Box.ext hb14 hx172
                  have hb21 := Box.ext hb21 hx172
                  have hz174 := (hx172).size
                  obtain rfl := Option.some.inj hF
                  refine TL.yld rfl rfl (yld_pick_t rfl rfl hg168 rfl) ?_
                  exact TL.nil fun a h => ⟨h.weaken ⟨rfl, rfl, trivial⟩, hx172⟩
                ·
                  rw [hg168] at hb167; simp only [cond_true, cond_false] at hb167
                  refine TL.gnu (j := 22) (t := 108) rfl rfl rfl hg168 rfl ?_
                  refine TL.gnu (j := 22) (t := 108) rfl rfl rfl hg168 rfl ?_
                  refine TL.gnu (j := 22) (t := 108) rfl rfl rfl hg168 rfl ?_
                  obtain rfl := Option.some.inj hb167
                  refine TL.yld rfl rfl (yld_pick_f rfl rfl hg168 rfl) ?_
                  exact TL.nil fun a h => ⟨h.weaken ⟨rfl, rfl, trivial⟩, Ext.refl _⟩
              intro w175 hx176
              have he177 : Ext w w175 := Ext.trans he164 hx176
              have hb14 := Box.ext hb14 hx176
              have hb21 := Box.ext hb21 hx176
              have hz178 := (hx176).size
              refine TL.yld rfl rfl (yld_move rfl rfl) ?_
              refine TL.cut 5 [(118, .bool ((c166 && ((((a1_a.Slew.length : Int)) == 0)))))] (fun w' => Ext w175 w') ?_ ?_
              · rcases Bool.eq_false_or_eq_true c166 with hg179 | hg179
                ·
                  refine TL.gy (j := 27) (t := 113) rfl rfl rfl hg179 rfl (yld_fieldAddr rfl fo_62_5 rfl) ?_
                  refine TL.gy (j := 27) (t := 113) rfl rfl rfl hg179 rfl (yld_load1 5 rfl ag_60 rfl (Box.cells hb21) rfl rfl) ?_
                  refine TL.gy (j := 27) (t := 113) rfl rfl rfl hg179 rfl (ye_len (c := C_Table) rfl Tryz.underlying60 rfl (slRep.old ha10 he177 (Nat.le_refl _))) ?_
                  refine TL.gy (j := 27) (t := 113) rfl rfl rfl hg179 rfl (yld_eql rfl rfl rfl) ?_
                  refine TL.yld rfl rfl (yld_and_t rfl rfl hg179 rfl) ?_
                  exact TL.nil fun a h => ⟨h.weaken ⟨rfl, trivial⟩, Ext.refl _⟩
                ·
                  refine TL.gnu (j := 27) (t := 113) rfl rfl rfl hg179 rfl ?_
                  refine TL.gnu (j := 27) (t := 113) rfl rfl rfl hg179 rfl ?_
                  refine TL.gnu (j := 27) (t := 113) rfl rfl rfl hg179 rfl ?_
                  refine TL.gnu (j := 27) (t := 113) rfl rfl rfl hg179 rfl ?_
                  refine TL.yld rfl rfl (yld_and_f (b2 := (((a1_a.Slew.length : Int)) == 0)) rfl rfl hg179 rfl) ?_
                  exact TL.nil fun a h => ⟨h.weaken ⟨rfl, trivial⟩, Ext.refl _⟩
              intro w180 hx181
              have he182 : Ext w w180 := Ext.trans he177 hx181
              have hb14 := Box.ext hb14 hx181
              have hb21 := Box.ext hb21 hx181
              have hz183 := (hx181).size
              refine TL.yld rfl rfl (yld_assign rfl rfl) ?_
              refine TL.done ?_
              refine NX.seq ?_
              refine WC.ret' ?_
              refine NX.blk_r ?_
              refine NX.then_r ?_
              obtain rfl := Option.some.inj hF
              exact NX.end (rs := [.tmp 4]) (vs := [.bool ((c166 && ((((a1_a.Slew.length : Int)) == 0))))]) rfl ⟨rfl, trivial⟩ ⟨_, rfl, rfl, he182⟩
            · intro hc184
              replace hF := bif_f hc184 hF
              refine WC.skip' ?_
              refine NX.blk_n ?_
              refine NX.seq ?_
              refine WC.seq ?_
              refine WC.region ?_
              refine TL.yld rfl rfl (yld_assign rfl rfl) ?_
              refine TL.done ?_
              refine NX.seq ?_
              refine WC.ret' ?_
              obtain rfl := Option.some.inj hF
              exact NX.end (rs := [.tmp 4]) (vs := [.bool false]) rfl ⟨rfl, trivial⟩ ⟨_, rfl, rfl, he42⟩
          · intro hc185
            replace hF := bif_f hc185 hF
            refine WC.region ?_
            refine TL.yld rfl rfl (yld_eql rfl rfl rfl) ?_
            refine TL.yld rfl rfl (yld_assign rfl rfl) ?_
            refine TL.done ?_
            refine NX.seq ?_
            refine WC.cond rfl ?_ ?_
            · intro hc186
              replace hF := bif_t hc186 hF
              refine WC.seq ?_
              refine WC.region ?_
              refine TL.yld rfl rfl (yld_move rfl rfl) ?_
              refine TL.yld rfl rfl (yld_move rfl rfl) ?_
              refine TL.cut 5 [(2, .pointer (some ⟨b11, 0, none⟩)), (3, .pointer (some ⟨b18, 0, none⟩)), (92, .bool ((x46.Clock && (decide (a1_a.To < IntKind.wrap IntKind.i64 (((a0_c.Pins.length : Int)) - 1))))))] (fun w' => Ext w40 w') ?_ ?_
              · rcases Bool.eq_false_or_eq_true x46.Clock with hg187 | hg187
                ·
                  refine TL.gy (j := 1) (t := 87) rfl rfl rfl hg187 rfl (yld_fieldAddr rfl fo_62_2 rfl) ?_
                  refine TL.gy (j := 1) (t := 87) rfl rfl rfl hg187 rfl (yld_load1 2 rfl ag_2 rfl (Box.cells hb21) rfl rfl) ?_
                  refine TL.gy (j := 1) (t := 87) rfl rfl rfl hg187 rfl (yld_move rfl rfl) ?_
                  refine TL.gy (j := 1) (t := 87) rfl rfl rfl hg187 rfl (yld_lss rfl rfl rfl) ?_
                  refine TL.yld rfl rfl (yld_and_t rfl rfl hg187 rfl) ?_
                  exact TL.nil fun a h => ⟨h.weaken ⟨rfl, rfl, rfl, trivial⟩, Ext.refl _⟩
                ·
                  refine TL.gnu (j := 1) (t := 87) rfl rfl rfl hg187 rfl ?_
                  refine TL.gnu (j := 1) (t := 87) rfl rfl rfl hg187 rfl ?_
                  refine TL.gnu (j := 1) (t := 87) rfl rfl rfl hg187 rfl ?_
                  refine TL.gnu (j := 1) (t := 87) rfl rfl rfl hg187 rfl ?_
                  refine TL.yld rfl rfl (yld_and_f (b2 := decide (a1_a.To < IntKind.wrap IntKind.i64 (((a0_c.Pins.length : Int)) - 1))) rfl rfl hg187 rfl) ?_
                  exact TL.nil fun a h => ⟨h.weaken ⟨rfl, rfl, rfl, trivial⟩, Ext.refl _⟩
              intro w188 hx189
              have he190 : Ext w w188 := Ext.trans he42 hx189
              have hb14 := Box.ext hb14 hx189
              have hb21 := Box.ext hb21 hx189
              have hz191 := (hx189).size
              refine TL.yld rfl rfl (yld_move rfl rfl) ?_
              obtain ⟨c192, hb193, hF⟩ := bsome hF
              refine TL.cut 9 [(3, .pointer (some ⟨b18, 0, none⟩)), (102, .bool c192)] (fun w' => Ext w188 w') ?_ ?_
              · rcases Bool.eq_false_or_eq_true ((x46.Clock && (decide (a1_a.To < IntKind.wrap IntKind.i64 (((a0_c.Pins.length : Int)) - 1))))) with hg194 | hg194
                ·
                  rw [hg194] at hb193; simp only [cond_true, cond_false] at hb193
                  replace hF := hb193
                  refine TL.gy (j := 7) (t := 93) rfl rfl rfl hg194 rfl (yld_fieldAddr rfl fo_32_2 rfl) ?_
                  refine TL.gy (j := 7) (t := 93) rfl rfl rfl hg194 rfl (yld_load1 2 rfl ag_29 rfl (Box.cells hb14) rfl rfl) ?_
                  refine TL.gy (j := 7) (t := 93) rfl rfl rfl hg194 rfl (yld_fieldAddr rfl fo_62_2 rfl) ?_
                  refine TL.gy (j := 7) (t := 93) rfl rfl rfl hg194 rfl (yld_load1 2 rfl ag_2 rfl (Box.cells hb21) rfl rfl) ?_
                  obtain ⟨x195, hy196, hF⟩ := bsome hF
                  refine TL.yeg (j := 7) (t := 93) rfl rfl rfl hg194 rfl (ye_index (c := C_Pin) rfl Tryz.underlying29 cn_67 rfl rfl (slRep.old ha2 he190 (Nat.le_refl _)) hy196) ?_
                  rintro _ ⟨b197, o198, us199, rfl, hib202, hr200, hcl201⟩
                  have hib202 : 0 ≤ b197 ∧ b197 < w.heap.size := ⟨hib202.1, by have := hib202.2; omega⟩
                  obtain rfl := C_Pin_open hr200
                  refine TL.gy (j := 7) (t := 93) rfl rfl rfl hg194 rfl (yld_fieldAddr rfl fo_67_3 rfl) ?_
                  refine TL.gy (j := 7) (t := 93) rfl rfl rfl hg194 rfl (yld_load1 3 rfl ag_4 rfl hcl201 rfl rfl) ?_
                  refine TL.gy (j := 7) (t := 93) rfl rfl rfl hg194 rfl (yld_not rfl rfl) ?_
                  obtain rfl := Option.some.inj hF
                  refine TL.yld rfl rfl (yld_pick_t rfl rfl hg194 rfl) ?_
                  exact TL.nil fun a h => ⟨h.weaken ⟨rfl, rfl, trivial⟩, Ext.refl _⟩
                ·
                  rw [hg194] at hb193; simp only [cond_true, cond_false] at hb193
                  refine TL.gnu (j := 7) (t := 93) rfl rfl rfl hg194 rfl ?_
                  refine TL.gnu (j := 7) (t := 93) rfl rfl rfl hg194 rfl ?_
                  refine TL.gnu (j := 7) (t := 93) rfl rfl rfl hg194 rfl ?_
                  refine TL.gnu (j := 7) (t := 93) rfl rfl rfl hg194 rfl ?_
                  refine TL.gnu (j := 7) (t := 93) rfl rfl rfl hg194 rfl ?_
                  refine TL.gnu (j := 7) (t := 93) rfl rfl rfl hg194 rfl ?_
                  refine TL.gnu (j := 7) (t := 93) rfl rfl rfl hg194 rfl ?_
                  refine TL.gnu (j := 7) (t := 93) rfl rfl rfl hg194 rfl ?_
                  obtain rfl := Option.some.inj hb193
                  refine TL.yld rfl rfl (yld_pick_f rfl rfl hg194 rfl) ?_
                  exact TL.nil fun a h => ⟨h.weaken ⟨rfl, rfl, trivial⟩, Ext.refl _⟩
              intro w203 hx204
              have he205 : Ext w w203 := Ext.trans he190 hx204
              have hb14 := Box.ext hb14 hx204
              have hb21 := Box.ext hb21 hx204
              have hz206 := (hx204).size
              refine TL.yld rfl rfl (yld_move rfl rfl) ?_
              refine TL.cut 4 [(3, .pointer (some ⟨b18, 0, none⟩)), (107, .bool ((c192 && ((a1_a.Sense == 0)))))] (fun w' => Ext w203 w') ?_ ?_
              · rcases Bool.eq_false_or_eq_true c192 with hg207 | hg207
                ·
                  refine TL.gy (j := 17) (t := 103) rfl rfl rfl hg207 rfl (yld_fieldAddr rfl fo_62_3 rfl) ?_
                  refine TL.gy (j := 17) (t := 103) rfl rfl rfl hg207 rfl (yld_load1 3 rfl ag_2 rfl (Box.cells hb21) rfl rfl) ?_
                  refine TL.gy (j := 17) (t := 103) rfl rfl rfl hg207 rfl (yld_eql rfl rfl rfl) ?_
                  refine TL.yld rfl rfl (yld_and_t rfl rfl hg207 rfl) ?_
                  exact TL.nil fun a h => ⟨h.weaken ⟨rfl, rfl, trivial⟩, Ext.refl _⟩
                ·
                  refine TL.gnu (j := 17) (t := 103) rfl rfl rfl hg207 rfl ?_
                  refine TL.gnu (j := 17) (t := 103) rfl rfl rfl hg207 rfl ?_
                  refine TL.gnu (j := 17) (t := 103) rfl rfl rfl hg207 rfl ?_
                  refine TL.yld rfl rfl (yld_and_f (b2 := (a1_a.Sense == 0)) rfl rfl hg207 rfl) ?_
                  exact TL.nil fun a h => ⟨h.weaken ⟨rfl, rfl, trivial⟩, Ext.refl _⟩
              intro w208 hx209
              have he210 : Ext w w208 := Ext.trans he205 hx209
              have hb14 := Box.ext hb14 hx209
              have hb21 := Box.ext hb21 hx209
              have hz211 := (hx209).size
              refine TL.yld rfl rfl (yld_move rfl rfl) ?_
              obtain ⟨c212, hb213, hF⟩ := bsome hF
              refine TL.cut 4 [(3, .pointer (some ⟨b18, 0, none⟩)), (112, .bool c212)] (fun w' => Ext w208 w') ?_ ?_
              · rcases Bool.eq_false_or_eq_true ((c192 && ((a1_a.Sense == 0)))) with hg214 | hg214
                ·
                  rw [hg214] at hb213; simp only [cond_true, cond_false] at hb213
                  replace hF := hb213
                  refine TL.gy (j := 22) (t := 108) rfl rfl rfl hg214 rfl (yld_fieldAddr rfl fo_62_4 rfl) ?_
                  refine TL.gy (j := 22) (t := 108) rfl rfl rfl hg214 rfl (yld_load1 4 rfl ag_60 rfl (Box.cells hb21) rfl rfl) ?_
                  obtain ⟨r215, hr216, hF⟩ := bsome hF
                  refine TL.ge (j := 22) (t := 108) rfl rfl rfl hg214 rfl (eff_call rfl gf_44 rfl (W_spec_l03Tables hr216 ((slRep.old ha8 he210 (Nat.le_refl _)).wide (Nat.le_refl _) (he210).size))) ?_
                  rintro _ w217 ⟨rfl, hx218⟩
                  have hb14 := Box.ext hb14 hx218
                  have hb21 := Box.ext hb21 hx218
                  have hz220 := (hx218).size
                  obtain rfl := Option.some.inj hF
                  refine TL.yld rfl rfl (yld_pick_t rfl rfl hg214 rfl) ?_
                  exact TL.nil fun a h => ⟨h.weaken ⟨rfl, rfl, trivial⟩, hx218⟩
                ·
                  rw [hg214] at hb213; simp only [cond_true, cond_false] at hb213
                  refine TL.gnu (j := 22) (t := 108) rfl rfl rfl hg214 rfl ?_
                  refine TL.gnu (j := 22) (t := 108) rfl rfl rfl hg214 rfl ?_
                  refine TL.gnu (j := 22) (t := 108) rfl rfl rfl hg214 rfl ?_
                  obtain rfl := Option.some.inj hb213
                  refine TL.yld rfl rfl (yld_pick_f rfl rfl hg214 rfl) ?_
                  exact TL.nil fun a h => ⟨h.weaken ⟨rfl, rfl, trivial⟩, Ext.refl _⟩
              intro w221 hx222
              have he223 : Ext w w221 := Ext.trans he210 hx222
              have hb14 := Box.ext hb14 hx222
              have hb21 := Box.ext hb21 hx222
              have hz224 := (hx222).size
              refine TL.yld rfl rfl (yld_move rfl rfl) ?_
              refine TL.cut 5 [(118, .bool ((c212 && ((((a1_a.Slew.length : Int)) == 0)))))] (fun w' => Ext w221 w') ?_ ?_
              · rcases Bool.eq_false_or_eq_true c212 with hg225 | hg225
                ·
                  refine TL.gy (j := 27) (t := 113) rfl rfl rfl hg225 rfl (yld_fieldAddr rfl fo_62_5 rfl) ?_
                  refine TL.gy (j := 27) (t := 113) rfl rfl rfl hg225 rfl (yld_load1 5 rfl ag_60 rfl (Box.cells hb21) rfl rfl) ?_
                  refine TL.gy (j := 27) (t := 113) rfl rfl rfl hg225 rfl (ye_len (c := C_Table) rfl Tryz.underlying60 rfl (slRep.old ha10 he223 (Nat.le_refl _))) ?_
                  refine TL.gy (j := 27) (t := 113) rfl rfl rfl hg225 rfl (yld_eql rfl rfl rfl) ?_
                  refine TL.yld rfl rfl (yld_and_t rfl rfl hg225 rfl) ?_
                  exact TL.nil fun a h => ⟨h.weaken ⟨rfl, trivial⟩, Ext.refl _⟩
                ·
                  refine TL.gnu (j := 27) (t := 113) rfl rfl rfl hg225 rfl ?_
                  refine TL.gnu (j := 27) (t := 113) rfl rfl rfl hg225 rfl ?_
                  refine TL.gnu (j := 27) (t := 113) rfl rfl rfl hg225 rfl ?_
                  refine TL.gnu (j := 27) (t := 113) rfl rfl rfl hg225 rfl ?_
                  refine TL.yld rfl rfl (yld_and_f (b2 := (((a1_a.Slew.length : Int)) == 0)) rfl rfl hg225 rfl) ?_
                  exact TL.nil fun a h => ⟨h.weaken ⟨rfl, trivial⟩, Ext.refl _⟩
              intro w226 hx227
              have he228 : Ext w w226 := Ext.trans he223 hx227
              have hb14 := Box.ext hb14 hx227
              have hb21 := Box.ext hb21 hx227
              have hz229 := (hx227).size
              refine TL.yld rfl rfl (yld_assign rfl rfl) ?_
              refine TL.done ?_
              refine NX.seq ?_
              refine WC.ret' ?_
              refine NX.blk_r ?_
              refine NX.then_r ?_
              obtain rfl := Option.some.inj hF
              exact NX.end (rs := [.tmp 4]) (vs := [.bool ((c212 && ((((a1_a.Slew.length : Int)) == 0))))]) rfl ⟨rfl, trivial⟩ ⟨_, rfl, rfl, he228⟩
            · intro hc230
              replace hF := bif_f hc230 hF
              refine WC.skip' ?_
              refine NX.blk_n ?_
              refine NX.seq ?_
              refine WC.seq ?_
              refine WC.region ?_
              refine TL.yld rfl rfl (yld_assign rfl rfl) ?_
              refine TL.done ?_
              refine NX.seq ?_
              refine WC.ret' ?_
              obtain rfl := Option.some.inj hF
              exact NX.end (rs := [.tmp 4]) (vs := [.bool false]) rfl ⟨rfl, trivial⟩ ⟨_, rfl, rfl, he42⟩
      · intro hc231
        replace hF := bif_f hc231 hF
        refine WC.region ?_
        refine TL.yld rfl rfl (yld_eql rfl rfl rfl) ?_
        refine TL.yld rfl rfl (yld_assign rfl rfl) ?_
        refine TL.done ?_
        refine NX.seq ?_
        refine WC.cond rfl ?_ ?_
        · intro hc232
          replace hF := bif_t hc232 hF
          refine WC.seq ?_
          refine WC.region ?_
          refine TL.yld rfl rfl (yld_move rfl rfl) ?_
          refine TL.yld rfl rfl (yld_move rfl rfl) ?_
          refine TL.cut 5 [(3, .pointer (some ⟨b18, 0, none⟩)), (67, .bool ((x46.Clock && ((a1_a.To == (IntKind.wrap IntKind.i64 (((a0_c.Pins.length : Int)) - 1)))))))] (fun w' => Ext w40 w') ?_ ?_
          · rcases Bool.eq_false_or_eq_true x46.Clock with hg233 | hg233
            ·
              refine TL.gy (j := 1) (t := 62) rfl rfl rfl hg233 rfl (yld_fieldAddr rfl fo_62_2 rfl) ?_
              refine TL.gy (j := 1) (t := 62) rfl rfl rfl hg233 rfl (yld_load1 2 rfl ag_2 rfl (Box.cells hb21) rfl rfl) ?_
              refine TL.gy (j := 1) (t := 62) rfl rfl rfl hg233 rfl (yld_move rfl rfl) ?_
              refine TL.gy (j := 1) (t := 62) rfl rfl rfl hg233 rfl (yld_eql rfl rfl rfl) ?_
              refine TL.yld rfl rfl (yld_and_t rfl rfl hg233 rfl) ?_
              exact TL.nil fun a h => ⟨h.weaken ⟨rfl, rfl, trivial⟩, Ext.refl _⟩
            ·
              refine TL.gnu (j := 1) (t := 62) rfl rfl rfl hg233 rfl ?_
              refine TL.gnu (j := 1) (t := 62) rfl rfl rfl hg233 rfl ?_
              refine TL.gnu (j := 1) (t := 62) rfl rfl rfl hg233 rfl ?_
              refine TL.gnu (j := 1) (t := 62) rfl rfl rfl hg233 rfl ?_
              refine TL.yld rfl rfl (yld_and_f (b2 := (a1_a.To == (IntKind.wrap IntKind.i64 (((a0_c.Pins.length : Int)) - 1)))) rfl rfl hg233 rfl) ?_
              exact TL.nil fun a h => ⟨h.weaken ⟨rfl, rfl, trivial⟩, Ext.refl _⟩
          intro w234 hx235
          have he236 : Ext w w234 := Ext.trans he42 hx235
          have hb14 := Box.ext hb14 hx235
          have hb21 := Box.ext hb21 hx235
          have hz237 := (hx235).size
          refine TL.yld rfl rfl (yld_move rfl rfl) ?_
          refine TL.cut 4 [(3, .pointer (some ⟨b18, 0, none⟩)), (72, .bool ((((x46.Clock && ((a1_a.To == (IntKind.wrap IntKind.i64 (((a0_c.Pins.length : Int)) - 1)))))) && ((a1_a.Sense == 0)))))] (fun w' => Ext w234 w') ?_ ?_
          · rcases Bool.eq_false_or_eq_true ((x46.Clock && ((a1_a.To == (IntKind.wrap IntKind.i64 (((a0_c.Pins.length : Int)) - 1)))))) with hg238 | hg238
            ·
              refine TL.gy (j := 7) (t := 68) rfl rfl rfl hg238 rfl (yld_fieldAddr rfl fo_62_3 rfl) ?_
              refine TL.gy (j := 7) (t := 68) rfl rfl rfl hg238 rfl (yld_load1 3 rfl ag_2 rfl (Box.cells hb21) rfl rfl) ?_
              refine TL.gy (j := 7) (t := 68) rfl rfl rfl hg238 rfl (yld_eql rfl rfl rfl) ?_
              refine TL.yld rfl rfl (yld_and_t rfl rfl hg238 rfl) ?_
              exact TL.nil fun a h => ⟨h.weaken ⟨rfl, rfl, trivial⟩, Ext.refl _⟩
            ·
              refine TL.gnu (j := 7) (t := 68) rfl rfl rfl hg238 rfl ?_
              refine TL.gnu (j := 7) (t := 68) rfl rfl rfl hg238 rfl ?_
              refine TL.gnu (j := 7) (t := 68) rfl rfl rfl hg238 rfl ?_
              refine TL.yld rfl rfl (yld_and_f (b2 := (a1_a.Sense == 0)) rfl rfl hg238 rfl) ?_
              exact TL.nil fun a h => ⟨h.weaken ⟨rfl, rfl, trivial⟩, Ext.refl _⟩
          intro w239 hx240
          have he241 : Ext w w239 := Ext.trans he236 hx240
          have hb14 := Box.ext hb14 hx240
          have hb21 := Box.ext hb21 hx240
          have hz242 := (hx240).size
          refine TL.yld rfl rfl (yld_move rfl rfl) ?_
          obtain ⟨c243, hb244, hF⟩ := bsome hF
          refine TL.cut 4 [(3, .pointer (some ⟨b18, 0, none⟩)), (77, .bool c243)] (fun w' => Ext w239 w') ?_ ?_
          · rcases Bool.eq_false_or_eq_true ((((x46.Clock && ((a1_a.To == (IntKind.wrap IntKind.i64 (((a0_c.Pins.length : Int)) - 1)))))) && ((a1_a.Sense == 0)))) with hg245 | hg245
            ·
              rw [hg245] at hb244; simp only [cond_true, cond_false] at hb244
              replace hF := hb244
              refine TL.gy (j := 12) (t := 73) rfl rfl rfl hg245 rfl (yld_fieldAddr rfl fo_62_4 rfl) ?_
              refine TL.gy (j := 12) (t := 73) rfl rfl rfl hg245 rfl (yld_load1 4 rfl ag_60 rfl (Box.cells hb21) rfl rfl) ?_
              obtain ⟨r246, hr247, hF⟩ := bsome hF
              refine TL.ge (j := 12) (t := 73) rfl rfl rfl hg245 rfl (eff_call rfl gf_44 rfl (W_spec_l03Tables hr247 ((slRep.old ha8 he241 (Nat.le_refl _)).wide (Nat.le_refl _) (he241).size))) ?_
              rintro _ w248 ⟨rfl, hx249⟩
              have hb14 := Box.ext hb14 hx249
              have hb21 := Box.ext hb21 hx249
              have hz251 := (hx249).size
              obtain rfl := Option.some.inj hF
              refine TL.yld rfl rfl (yld_pick_t rfl rfl hg245 rfl) ?_
              exact TL.nil fun a h => ⟨h.weaken ⟨rfl, rfl, trivial⟩, hx249⟩
            ·
              rw [hg245] at hb244; simp only [cond_true, cond_false] at hb244
              refine TL.gnu (j := 12) (t := 73) rfl rfl rfl hg245 rfl ?_
              refine TL.gnu (j := 12) (t := 73) rfl rfl rfl hg245 rfl ?_
              refine TL.gnu (j := 12) (t := 73) rfl rfl rfl hg245 rfl ?_
              obtain rfl := Option.some.inj hb244
              refine TL.yld rfl rfl (yld_pick_f rfl rfl hg245 rfl) ?_
              exact TL.nil fun a h => ⟨h.weaken ⟨rfl, rfl, trivial⟩, Ext.refl _⟩
          intro w252 hx253
          have he254 : Ext w w252 := Ext.trans he241 hx253
          have hb14 := Box.ext hb14 hx253
          have hb21 := Box.ext hb21 hx253
          have hz255 := (hx253).size
          refine TL.yld rfl rfl (yld_move rfl rfl) ?_
          obtain ⟨c256, hb257, hF⟩ := bsome hF
          refine TL.cut 4 [(82, .bool c256)] (fun w' => Ext w252 w') ?_ ?_
          · rcases Bool.eq_false_or_eq_true c243 with hg258 | hg258
            ·
              rw [hg258] at hb257; simp only [cond_true, cond_false] at hb257
              replace hF := hb257
              refine TL.gy (j := 17) (t := 78) rfl rfl rfl hg258 rfl (yld_fieldAddr rfl fo_62_5 rfl) ?_
              refine TL.gy (j := 17) (t := 78) rfl rfl rfl hg258 rfl (yld_load1 5 rfl ag_60 rfl (Box.cells hb21) rfl rfl) ?_
              obtain ⟨r259, hr260, hF⟩ := bsome hF
              refine TL.ge (j := 17) (t := 78) rfl rfl rfl hg258 rfl (eff_call rfl gf_44 rfl (W_spec_l03Tables hr260 ((slRep.old ha10 he254 (Nat.le_refl _)).wide (Nat.le_refl _) (he254).size))) ?_
              rintro _ w261 ⟨rfl, hx262⟩
              have hb14 := Box.ext hb14 hx262
              have hb21 := Box.ext hb21 hx262
              have hz264 := (hx262).size
              obtain rfl := Option.some.inj hF
              refine TL.yld rfl rfl (yld_pick_t rfl rfl hg258 rfl) ?_
              exact TL.nil fun a h => ⟨h.weaken ⟨rfl, trivial⟩, hx262⟩
            ·
              rw [hg258] at hb257; simp only [cond_true, cond_false] at hb257
              refine TL.gnu (j := 17) (t := 78) rfl rfl rfl hg258 rfl ?_
              refine TL.gnu (j := 17) (t := 78) rfl rfl rfl hg258 rfl ?_
              refine TL.gnu (j := 17) (t := 78) rfl rfl rfl hg258 rfl ?_
              obtain rfl := Option.some.inj hb257
              refine TL.yld rfl rfl (yld_pick_f rfl rfl hg258 rfl) ?_
              exact TL.nil fun a h => ⟨h.weaken ⟨rfl, trivial⟩, Ext.refl _⟩
          intro w265 hx266
          have he267 : Ext w w265 := Ext.trans he254 hx266
          have hb14 := Box.ext hb14 hx266
          have hb21 := Box.ext hb21 hx266
          have hz268 := (hx266).size
          refine TL.yld rfl rfl (yld_assign rfl rfl) ?_
          refine TL.done ?_
          refine NX.seq ?_
          refine WC.ret' ?_
          refine NX.blk_r ?_
          refine NX.then_r ?_
          obtain rfl := Option.some.inj hF
          exact NX.end (rs := [.tmp 4]) (vs := [.bool c256]) rfl ⟨rfl, trivial⟩ ⟨_, rfl, rfl, he267⟩
        · intro hc269
          replace hF := bif_f hc269 hF
          refine WC.seq ?_
          refine WC.seq ?_
          refine WC.region ?_
          refine TL.yld rfl rfl (yld_eql rfl rfl rfl) ?_
          refine TL.yld rfl rfl (yld_assign rfl rfl) ?_
          refine TL.done ?_
          refine NX.seq ?_
          refine WC.cond rfl ?_ ?_
          · intro hc270
            replace hF := bif_t hc270 hF
            refine WC.skip' ?_
            refine NX.seq ?_
            refine WC.cond rfl ?_ ?_
            · intro hc271
              replace hF := bif_t hc271 hF
              refine WC.seq ?_
              refine WC.region ?_
              refine TL.yld rfl rfl (yld_move rfl rfl) ?_
              refine TL.yld rfl rfl (yld_move rfl rfl) ?_
              refine TL.cut 5 [(2, .pointer (some ⟨b11, 0, none⟩)), (3, .pointer (some ⟨b18, 0, none⟩)), (92, .bool ((x46.Clock && (decide (a1_a.To < IntKind.wrap IntKind.i64 (((a0_c.Pins.length : Int)) - 1))))))] (fun w' => Ext w40 w') ?_ ?_
              · rcases Bool.eq_false_or_eq_true x46.Clock with hg272 | hg272
                ·
                  refine TL.gy (j := 1) (t := 87) rfl rfl rfl hg272 rfl (yld_fieldAddr rfl fo_62_2 rfl) ?_
                  refine TL.gy (j := 1) (t := 87) rfl rfl rfl hg272 rfl (yld_load1 2 rfl ag_2 rfl (Box.cells hb21) rfl rfl) ?_
                  refine TL.gy (j := 1) (t := 87) rfl rfl rfl hg272 rfl (yld_move rfl rfl) ?_
                  refine TL.gy (j := 1) (t := 87) rfl rfl rfl hg272 rfl (yld_lss rfl rfl rfl) ?_
                  refine TL.yld rfl rfl (yld_and_t rfl rfl hg272 rfl) ?_
                  exact TL.nil fun a h => ⟨h.weaken ⟨rfl, rfl, rfl, trivial⟩, Ext.refl _⟩
                ·
                  refine TL.gnu (j := 1) (t := 87) rfl rfl rfl hg272 rfl ?_
                  refine TL.gnu (j := 1) (t := 87) rfl rfl rfl hg272 rfl ?_
                  refine TL.gnu (j := 1) (t := 87) rfl rfl rfl hg272 rfl ?_
                  refine TL.gnu (j := 1) (t := 87) rfl rfl rfl hg272 rfl ?_
                  refine TL.yld rfl rfl (yld_and_f (b2 := decide (a1_a.To < IntKind.wrap IntKind.i64 (((a0_c.Pins.length : Int)) - 1))) rfl rfl hg272 rfl) ?_
                  exact TL.nil fun a h => ⟨h.weaken ⟨rfl, rfl, rfl, trivial⟩, Ext.refl _⟩
              intro w273 hx274
              have he275 : Ext w w273 := Ext.trans he42 hx274
              have hb14 := Box.ext hb14 hx274
              have hb21 := Box.ext hb21 hx274
              have hz276 := (hx274).size
              refine TL.yld rfl rfl (yld_move rfl rfl) ?_
              obtain ⟨c277, hb278, hF⟩ := bsome hF
              refine TL.cut 9 [(3, .pointer (some ⟨b18, 0, none⟩)), (102, .bool c277)] (fun w' => Ext w273 w') ?_ ?_
              · rcases Bool.eq_false_or_eq_true ((x46.Clock && (decide (a1_a.To < IntKind.wrap IntKind.i64 (((a0_c.Pins.length : Int)) - 1))))) with hg279 | hg279
                ·
                  rw [hg279] at hb278; simp only [cond_true, cond_false] at hb278
                  replace hF := hb278
                  refine TL.gy (j := 7) (t := 93) rfl rfl rfl hg279 rfl (yld_fieldAddr rfl fo_32_2 rfl) ?_
                  refine TL.gy (j := 7) (t := 93) rfl rfl rfl hg279 rfl (yld_load1 2 rfl ag_29 rfl (Box.cells hb14) rfl rfl) ?_
                  refine TL.gy (j := 7) (t := 93) rfl rfl rfl hg279 rfl (yld_fieldAddr rfl fo_62_2 rfl) ?_
                  refine TL.gy (j := 7) (t := 93) rfl rfl rfl hg279 rfl (yld_load1 2 rfl ag_2 rfl (Box.cells hb21) rfl rfl) ?_
                  obtain ⟨x280, hy281, hF⟩ := bsome hF
                  refine TL.yeg (j := 7) (t := 93) rfl rfl rfl hg279 rfl (ye_index (c := C_Pin) rfl Tryz.underlying29 cn_67 rfl rfl (slRep.old ha2 he275 (Nat.le_refl _)) hy281) ?_
                  rintro _ ⟨b282, o283, us284, rfl, hib287, hr285, hcl286⟩
                  have hib287 : 0 ≤ b282 ∧ b282 < w.heap.size := ⟨hib287.1, by have := hib287.2; omega⟩
                  obtain rfl := C_Pin_open hr285
                  refine TL.gy (j := 7) (t := 93) rfl rfl rfl hg279 rfl (yld_fieldAddr rfl fo_67_3 rfl) ?_
                  refine TL.gy (j := 7) (t := 93) rfl rfl rfl hg279 rfl (yld_load1 3 rfl ag_4 rfl hcl286 rfl rfl) ?_
                  refine TL.gy (j := 7) (t := 93) rfl rfl rfl hg279 rfl (yld_not rfl rfl) ?_
                  obtain rfl := Option.some.inj hF
                  refine TL.yld rfl rfl (yld_pick_t rfl rfl hg279 rfl) ?_
                  exact TL.nil fun a h => ⟨h.weaken ⟨rfl, rfl, trivial⟩, Ext.refl _⟩
                ·
                  rw [hg279] at hb278; simp only [cond_true, cond_false] at hb278
                  refine TL.gnu (j := 7) (t := 93) rfl rfl rfl hg279 rfl ?_
                  refine TL.gnu (j := 7) (t := 93) rfl rfl rfl hg279 rfl ?_
                  refine TL.gnu (j := 7) (t := 93) rfl rfl rfl hg279 rfl ?_
                  refine TL.gnu (j := 7) (t := 93) rfl rfl rfl hg279 rfl ?_
                  refine TL.gnu (j := 7) (t := 93) rfl rfl rfl hg279 rfl ?_
                  refine TL.gnu (j := 7) (t := 93) rfl rfl rfl hg279 rfl ?_
                  refine TL.gnu (j := 7) (t := 93) rfl rfl rfl hg279 rfl ?_
                  refine TL.gnu (j := 7) (t := 93) rfl rfl rfl hg279 rfl ?_
                  obtain rfl := Option.some.inj hb278
                  refine TL.yld rfl rfl (yld_pick_f rfl rfl hg279 rfl) ?_
                  exact TL.nil fun a h => ⟨h.weaken ⟨rfl, rfl, trivial⟩, Ext.refl _⟩
              intro w288 hx289
              have he290 : Ext w w288 := Ext.trans he275 hx289
              have hb14 := Box.ext hb14 hx289
              have hb21 := Box.ext hb21 hx289
              have hz291 := (hx289).size
              refine TL.yld rfl rfl (yld_move rfl rfl) ?_
              refine TL.cut 4 [(3, .pointer (some ⟨b18, 0, none⟩)), (107, .bool ((c277 && ((a1_a.Sense == 0)))))] (fun w' => Ext w288 w') ?_ ?_
              · rcases Bool.eq_false_or_eq_true c277 with hg292 | hg292
                ·
                  refine TL.gy (j := 17) (t := 103) rfl rfl rfl hg292 rfl (yld_fieldAddr rfl fo_62_3 rfl) ?_
                  refine TL.gy (j := 17) (t := 103) rfl rfl rfl hg292 rfl (yld_load1 3 rfl ag_2 rfl (Box.cells hb21) rfl rfl) ?_
                  refine TL.gy (j := 17) (t := 103) rfl rfl rfl hg292 rfl (yld_eql rfl rfl rfl) ?_
                  refine TL.yld rfl rfl (yld_and_t rfl rfl hg292 rfl) ?_
                  exact TL.nil fun a h => ⟨h.weaken ⟨rfl, rfl, trivial⟩, Ext.refl _⟩
                ·
                  refine TL.gnu (j := 17) (t := 103) rfl rfl rfl hg292 rfl ?_
                  refine TL.gnu (j := 17) (t := 103) rfl rfl rfl hg292 rfl ?_
                  refine TL.gnu (j := 17) (t := 103) rfl rfl rfl hg292 rfl ?_
                  refine TL.yld rfl rfl (yld_and_f (b2 := (a1_a.Sense == 0)) rfl rfl hg292 rfl) ?_
                  exact TL.nil fun a h => ⟨h.weaken ⟨rfl, rfl, trivial⟩, Ext.refl _⟩
              intro w293 hx294
              have he295 : Ext w w293 := Ext.trans he290 hx294
              have hb14 := Box.ext hb14 hx294
              have hb21 := Box.ext hb21 hx294
              have hz296 := (hx294).size
              refine TL.yld rfl rfl (yld_move rfl rfl) ?_
              obtain ⟨c297, hb298, hF⟩ := bsome hF
              refine TL.cut 4 [(3, .pointer (some ⟨b18, 0, none⟩)), (112, .bool c297)] (fun w' => Ext w293 w') ?_ ?_
              · rcases Bool.eq_false_or_eq_true ((c277 && ((a1_a.Sense == 0)))) with hg299 | hg299
                ·
                  rw [hg299] at hb298; simp only [cond_true, cond_false] at hb298
                  replace hF := hb298
                  refine TL.gy (j := 22) (t := 108) rfl rfl rfl hg299 rfl (yld_fieldAddr rfl fo_62_4 rfl) ?_
                  refine TL.gy (j := 22) (t := 108) rfl rfl rfl hg299 rfl (yld_load1 4 rfl ag_60 rfl (Box.cells hb21) rfl rfl) ?_
                  obtain ⟨r300, hr301, hF⟩ := bsome hF
                  refine TL.ge (j := 22) (t := 108) rfl rfl rfl hg299 rfl (eff_call rfl gf_44 rfl (W_spec_l03Tables hr301 ((slRep.old ha8 he295 (Nat.le_refl _)).wide (Nat.le_refl _) (he295).size))) ?_
                  rintro _ w302 ⟨rfl, hx303⟩
                  have hb14 := Box.ext hb14 hx303
                  have hb21 := Box.ext hb21 hx303
                  have hz305 := (hx303).size
                  obtain rfl := Option.some.inj hF
                  refine TL.yld rfl rfl (yld_pick_t rfl rfl hg299 rfl) ?_
                  exact TL.nil fun a h => ⟨h.weaken ⟨rfl, rfl, trivial⟩, hx303⟩
                ·
                  rw [hg299] at hb298; simp only [cond_true, cond_false] at hb298
                  refine TL.gnu (j := 22) (t := 108) rfl rfl rfl hg299 rfl ?_
                  refine TL.gnu (j := 22) (t := 108) rfl rfl rfl hg299 rfl ?_
                  refine TL.gnu (j := 22) (t := 108) rfl rfl rfl hg299 rfl ?_
                  obtain rfl := Option.some.inj hb298
                  refine TL.yld rfl rfl (yld_pick_f rfl rfl hg299 rfl) ?_
                  exact TL.nil fun a h => ⟨h.weaken ⟨rfl, rfl, trivial⟩, Ext.refl _⟩
              intro w306 hx307
              have he308 : Ext w w306 := Ext.trans he295 hx307
              have hb14 := Box.ext hb14 hx307
              have hb21 := Box.ext hb21 hx307
              have hz309 := (hx307).size
              refine TL.yld rfl rfl (yld_move rfl rfl) ?_
              refine TL.cut 5 [(118, .bool ((c297 && ((((a1_a.Slew.length : Int)) == 0)))))] (fun w' => Ext w306 w') ?_ ?_
              · rcases Bool.eq_false_or_eq_true c297 with hg310 | hg310
                ·
                  refine TL.gy (j := 27) (t := 113) rfl rfl rfl hg310 rfl (yld_fieldAddr rfl fo_62_5 rfl) ?_
                  refine TL.gy (j := 27) (t := 113) rfl rfl rfl hg310 rfl (yld_load1 5 rfl ag_60 rfl (Box.cells hb21) rfl rfl) ?_
                  refine TL.gy (j := 27) (t := 113) rfl rfl rfl hg310 rfl (ye_len (c := C_Table) rfl Tryz.underlying60 rfl (slRep.old ha10 he308 (Nat.le_refl _))) ?_
                  refine TL.gy (j := 27) (t := 113) rfl rfl rfl hg310 rfl (yld_eql rfl rfl rfl) ?_
                  refine TL.yld rfl rfl (yld_and_t rfl rfl hg310 rfl) ?_
                  exact TL.nil fun a h => ⟨h.weaken ⟨rfl, trivial⟩, Ext.refl _⟩
                ·
                  refine TL.gnu (j := 27) (t := 113) rfl rfl rfl hg310 rfl ?_
                  refine TL.gnu (j := 27) (t := 113) rfl rfl rfl hg310 rfl ?_
                  refine TL.gnu (j := 27) (t := 113) rfl rfl rfl hg310 rfl ?_
                  refine TL.gnu (j := 27) (t := 113) rfl rfl rfl hg310 rfl ?_
                  refine TL.yld rfl rfl (yld_and_f (b2 := (((a1_a.Slew.length : Int)) == 0)) rfl rfl hg310 rfl) ?_
                  exact TL.nil fun a h => ⟨h.weaken ⟨rfl, trivial⟩, Ext.refl _⟩
              intro w311 hx312
              have he313 : Ext w w311 := Ext.trans he308 hx312
              have hb14 := Box.ext hb14 hx312
              have hb21 := Box.ext hb21 hx312
              have hz314 := (hx312).size
              refine TL.yld rfl rfl (yld_assign rfl rfl) ?_
              refine TL.done ?_
              refine NX.seq ?_
              refine WC.ret' ?_
              refine NX.blk_r ?_
              refine NX.then_r ?_
              obtain rfl := Option.some.inj hF
              exact NX.end (rs := [.tmp 4]) (vs := [.bool ((c297 && ((((a1_a.Slew.length : Int)) == 0))))]) rfl ⟨rfl, trivial⟩ ⟨_, rfl, rfl, he313⟩
            · intro hc315
              replace hF := bif_f hc315 hF
              refine WC.skip' ?_
              refine NX.blk_n ?_
              refine NX.seq ?_
              refine WC.seq ?_
              refine WC.region ?_
              refine TL.yld rfl rfl (yld_assign rfl rfl) ?_
              refine TL.done ?_
              refine NX.seq ?_
              refine WC.ret' ?_
              obtain rfl := Option.some.inj hF
              exact NX.end (rs := [.tmp 4]) (vs := [.bool false]) rfl ⟨rfl, trivial⟩ ⟨_, rfl, rfl, he42⟩
          · intro hc316
            replace hF := bif_f hc316 hF
            refine WC.region ?_
            refine TL.yld rfl rfl (yld_eql rfl rfl rfl) ?_
            refine TL.yld rfl rfl (yld_assign rfl rfl) ?_
            refine TL.done ?_
            refine NX.seq ?_
            refine WC.cond rfl ?_ ?_
            · intro hc317
              replace hF := bif_t hc317 hF
              refine WC.seq ?_
              refine WC.region ?_
              refine TL.yld rfl rfl (yld_move rfl rfl) ?_
              refine TL.yld rfl rfl (yld_move rfl rfl) ?_
              refine TL.cut 5 [(2, .pointer (some ⟨b11, 0, none⟩)), (3, .pointer (some ⟨b18, 0, none⟩)), (92, .bool ((x46.Clock && (decide (a1_a.To < IntKind.wrap IntKind.i64 (((a0_c.Pins.length : Int)) - 1))))))] (fun w' => Ext w40 w') ?_ ?_
              · rcases Bool.eq_false_or_eq_true x46.Clock with hg318 | hg318
                ·
                  refine TL.gy (j := 1) (t := 87) rfl rfl rfl hg318 rfl (yld_fieldAddr rfl fo_62_2 rfl) ?_
                  refine TL.gy (j := 1) (t := 87) rfl rfl rfl hg318 rfl (yld_load1 2 rfl ag_2 rfl (Box.cells hb21) rfl rfl) ?_
                  refine TL.gy (j := 1) (t := 87) rfl rfl rfl hg318 rfl (yld_move rfl rfl) ?_
                  refine TL.gy (j := 1) (t := 87) rfl rfl rfl hg318 rfl (yld_lss rfl rfl rfl) ?_
                  refine TL.yld rfl rfl (yld_and_t rfl rfl hg318 rfl) ?_
                  exact TL.nil fun a h => ⟨h.weaken ⟨rfl, rfl, rfl, trivial⟩, Ext.refl _⟩
                ·
                  refine TL.gnu (j := 1) (t := 87) rfl rfl rfl hg318 rfl ?_
                  refine TL.gnu (j := 1) (t := 87) rfl rfl rfl hg318 rfl ?_
                  refine TL.gnu (j := 1) (t := 87) rfl rfl rfl hg318 rfl ?_
                  refine TL.gnu (j := 1) (t := 87) rfl rfl rfl hg318 rfl ?_
                  refine TL.yld rfl rfl (yld_and_f (b2 := decide (a1_a.To < IntKind.wrap IntKind.i64 (((a0_c.Pins.length : Int)) - 1))) rfl rfl hg318 rfl) ?_
                  exact TL.nil fun a h => ⟨h.weaken ⟨rfl, rfl, rfl, trivial⟩, Ext.refl _⟩
              intro w319 hx320
              have he321 : Ext w w319 := Ext.trans he42 hx320
              have hb14 := Box.ext hb14 hx320
              have hb21 := Box.ext hb21 hx320
              have hz322 := (hx320).size
              refine TL.yld rfl rfl (yld_move rfl rfl) ?_
              obtain ⟨c323, hb324, hF⟩ := bsome hF
              refine TL.cut 9 [(3, .pointer (some ⟨b18, 0, none⟩)), (102, .bool c323)] (fun w' => Ext w319 w') ?_ ?_
              · rcases Bool.eq_false_or_eq_true ((x46.Clock && (decide (a1_a.To < IntKind.wrap IntKind.i64 (((a0_c.Pins.length : Int)) - 1))))) with hg325 | hg325
                ·
                  rw [hg325] at hb324; simp only [cond_true, cond_false] at hb324
                  replace hF := hb324
                  refine TL.gy (j := 7) (t := 93) rfl rfl rfl hg325 rfl (yld_fieldAddr rfl fo_32_2 rfl) ?_
                  refine TL.gy (j := 7) (t := 93) rfl rfl rfl hg325 rfl (yld_load1 2 rfl ag_29 rfl (Box.cells hb14) rfl rfl) ?_
                  refine TL.gy (j := 7) (t := 93) rfl rfl rfl hg325 rfl (yld_fieldAddr rfl fo_62_2 rfl) ?_
                  refine TL.gy (j := 7) (t := 93) rfl rfl rfl hg325 rfl (yld_load1 2 rfl ag_2 rfl (Box.cells hb21) rfl rfl) ?_
                  obtain ⟨x326, hy327, hF⟩ := bsome hF
                  refine TL.yeg (j := 7) (t := 93) rfl rfl rfl hg325 rfl (ye_index (c := C_Pin) rfl Tryz.underlying29 cn_67 rfl rfl (slRep.old ha2 he321 (Nat.le_refl _)) hy327) ?_
                  rintro _ ⟨b328, o329, us330, rfl, hib333, hr331, hcl332⟩
                  have hib333 : 0 ≤ b328 ∧ b328 < w.heap.size := ⟨hib333.1, by have := hib333.2; omega⟩
                  obtain rfl := C_Pin_open hr331
                  refine TL.gy (j := 7) (t := 93) rfl rfl rfl hg325 rfl (yld_fieldAddr rfl fo_67_3 rfl) ?_
                  refine TL.gy (j := 7) (t := 93) rfl rfl rfl hg325 rfl (yld_load1 3 rfl ag_4 rfl hcl332 rfl rfl) ?_
                  refine TL.gy (j := 7) (t := 93) rfl rfl rfl hg325 rfl (yld_not rfl rfl) ?_
                  obtain rfl := Option.some.inj hF
                  refine TL.yld rfl rfl (yld_pick_t rfl rfl hg325 rfl) ?_
                  exact TL.nil fun a h => ⟨h.weaken ⟨rfl, rfl, trivial⟩, Ext.refl _⟩
                ·
                  rw [hg325] at hb324; simp only [cond_true, cond_false] at hb324
                  refine TL.gnu (j := 7) (t := 93) rfl rfl rfl hg325 rfl ?_
                  refine TL.gnu (j := 7) (t := 93) rfl rfl rfl hg325 rfl ?_
                  refine TL.gnu (j := 7) (t := 93) rfl rfl rfl hg325 rfl ?_
                  refine TL.gnu (j := 7) (t := 93) rfl rfl rfl hg325 rfl ?_
                  refine TL.gnu (j := 7) (t := 93) rfl rfl rfl hg325 rfl ?_
                  refine TL.gnu (j := 7) (t := 93) rfl rfl rfl hg325 rfl ?_
                  refine TL.gnu (j := 7) (t := 93) rfl rfl rfl hg325 rfl ?_
                  refine TL.gnu (j := 7) (t := 93) rfl rfl rfl hg325 rfl ?_
                  obtain rfl := Option.some.inj hb324
                  refine TL.yld rfl rfl (yld_pick_f rfl rfl hg325 rfl) ?_
                  exact TL.nil fun a h => ⟨h.weaken ⟨rfl, rfl, trivial⟩, Ext.refl _⟩
              intro w334 hx335
              have he336 : Ext w w334 := Ext.trans he321 hx335
              have hb21 := Box.ext hb21 hx335
              have hz337 := (hx335).size
              refine TL.yld rfl rfl (yld_move rfl rfl) ?_
              refine TL.cut 4 [(3, .pointer (some ⟨b18, 0, none⟩)), (107, .bool ((c323 && ((a1_a.Sense == 0)))))] (fun w' => Ext w334 w') ?_ ?_
              · rcases Bool.eq_false_or_eq_true c323 with hg338 | hg338
                ·
                  refine TL.gy (j := 17) (t := 103) rfl rfl rfl hg338 rfl (yld_fieldAddr rfl fo_62_3 rfl) ?_
                  refine TL.gy (j := 17) (t := 103) rfl rfl rfl hg338 rfl (yld_load1 3 rfl ag_2 rfl (Box.cells hb21) rfl rfl) ?_
                  refine TL.gy (j := 17) (t := 103) rfl rfl rfl hg338 rfl (yld_eql rfl rfl rfl) ?_
                  refine TL.yld rfl rfl (yld_and_t rfl rfl hg338 rfl) ?_
                  exact TL.nil fun a h => ⟨h.weaken ⟨rfl, rfl, trivial⟩, Ext.refl _⟩
                ·
                  refine TL.gnu (j := 17) (t := 103) rfl rfl rfl hg338 rfl ?_
                  refine TL.gnu (j := 17) (t := 103) rfl rfl rfl hg338 rfl ?_
                  refine TL.gnu (j := 17) (t := 103) rfl rfl rfl hg338 rfl ?_
                  refine TL.yld rfl rfl (yld_and_f (b2 := (a1_a.Sense == 0)) rfl rfl hg338 rfl) ?_
                  exact TL.nil fun a h => ⟨h.weaken ⟨rfl, rfl, trivial⟩, Ext.refl _⟩
              intro w339 hx340
              have he341 : Ext w w339 := Ext.trans he336 hx340
              have hb21 := Box.ext hb21 hx340
              have hz342 := (hx340).size
              refine TL.yld rfl rfl (yld_move rfl rfl) ?_
              obtain ⟨c343, hb344, hF⟩ := bsome hF
              refine TL.cut 4 [(3, .pointer (some ⟨b18, 0, none⟩)), (112, .bool c343)] (fun w' => Ext w339 w') ?_ ?_
              · rcases Bool.eq_false_or_eq_true ((c323 && ((a1_a.Sense == 0)))) with hg345 | hg345
                ·
                  rw [hg345] at hb344; simp only [cond_true, cond_false] at hb344
                  replace hF := hb344
                  refine TL.gy (j := 22) (t := 108) rfl rfl rfl hg345 rfl (yld_fieldAddr rfl fo_62_4 rfl) ?_
                  refine TL.gy (j := 22) (t := 108) rfl rfl rfl hg345 rfl (yld_load1 4 rfl ag_60 rfl (Box.cells hb21) rfl rfl) ?_
                  obtain ⟨r346, hr347, hF⟩ := bsome hF
                  refine TL.ge (j := 22) (t := 108) rfl rfl rfl hg345 rfl (eff_call rfl gf_44 rfl (W_spec_l03Tables hr347 ((slRep.old ha8 he341 (Nat.le_refl _)).wide (Nat.le_refl _) (he341).size))) ?_
                  rintro _ w348 ⟨rfl, hx349⟩
                  have hb21 := Box.ext hb21 hx349
                  have hz351 := (hx349).size
                  obtain rfl := Option.some.inj hF
                  refine TL.yld rfl rfl (yld_pick_t rfl rfl hg345 rfl) ?_
                  exact TL.nil fun a h => ⟨h.weaken ⟨rfl, rfl, trivial⟩, hx349⟩
                ·
                  rw [hg345] at hb344; simp only [cond_true, cond_false] at hb344
                  refine TL.gnu (j := 22) (t := 108) rfl rfl rfl hg345 rfl ?_
                  refine TL.gnu (j := 22) (t := 108) rfl rfl rfl hg345 rfl ?_
                  refine TL.gnu (j := 22) (t := 108) rfl rfl rfl hg345 rfl ?_
                  obtain rfl := Option.some.inj hb344
                  refine TL.yld rfl rfl (yld_pick_f rfl rfl hg345 rfl) ?_
                  exact TL.nil fun a h => ⟨h.weaken ⟨rfl, rfl, trivial⟩, Ext.refl _⟩
              intro w352 hx353
              have he354 : Ext w w352 := Ext.trans he341 hx353
              have hb21 := Box.ext hb21 hx353
              have hz355 := (hx353).size
              refine TL.yld rfl rfl (yld_move rfl rfl) ?_
              refine TL.cut 5 [(118, .bool ((c343 && ((((a1_a.Slew.length : Int)) == 0)))))] (fun w' => Ext w352 w') ?_ ?_
              · rcases Bool.eq_false_or_eq_true c343 with hg356 | hg356
                ·
                  refine TL.gy (j := 27) (t := 113) rfl rfl rfl hg356 rfl (yld_fieldAddr rfl fo_62_5 rfl) ?_
                  refine TL.gy (j := 27) (t := 113) rfl rfl rfl hg356 rfl (yld_load1 5 rfl ag_60 rfl (Box.cells hb21) rfl rfl) ?_
                  refine TL.gy (j := 27) (t := 113) rfl rfl rfl hg356 rfl (ye_len (c := C_Table) rfl Tryz.underlying60 rfl (slRep.old ha10 he354 (Nat.le_refl _))) ?_
                  refine TL.gy (j := 27) (t := 113) rfl rfl rfl hg356 rfl (yld_eql rfl rfl rfl) ?_
                  refine TL.yld rfl rfl (yld_and_t rfl rfl hg356 rfl) ?_
                  exact TL.nil fun a h => ⟨h.weaken ⟨rfl, trivial⟩, Ext.refl _⟩
                ·
                  refine TL.gnu (j := 27) (t := 113) rfl rfl rfl hg356 rfl ?_
                  refine TL.gnu (j := 27) (t := 113) rfl rfl rfl hg356 rfl ?_
                  refine TL.gnu (j := 27) (t := 113) rfl rfl rfl hg356 rfl ?_
                  refine TL.gnu (j := 27) (t := 113) rfl rfl rfl hg356 rfl ?_
                  refine TL.yld rfl rfl (yld_and_f (b2 := (((a1_a.Slew.length : Int)) == 0)) rfl rfl hg356 rfl) ?_
                  exact TL.nil fun a h => ⟨h.weaken ⟨rfl, trivial⟩, Ext.refl _⟩
              intro w357 hx358
              have he359 : Ext w w357 := Ext.trans he354 hx358
              have hz360 := (hx358).size
              refine TL.yld rfl rfl (yld_assign rfl rfl) ?_
              refine TL.done ?_
              refine NX.seq ?_
              refine WC.ret' ?_
              refine NX.blk_r ?_
              refine NX.then_r ?_
              obtain rfl := Option.some.inj hF
              exact NX.end (rs := [.tmp 4]) (vs := [.bool ((c343 && ((((a1_a.Slew.length : Int)) == 0))))]) rfl ⟨rfl, trivial⟩ ⟨_, rfl, rfl, he359⟩
            · intro hc361
              replace hF := bif_f hc361 hF
              refine WC.skip' ?_
              refine NX.blk_n ?_
              refine NX.seq ?_
              refine WC.seq ?_
              refine WC.region ?_
              refine TL.yld rfl rfl (yld_assign rfl rfl) ?_
              refine TL.done ?_
              refine NX.seq ?_
              refine WC.ret' ?_
              obtain rfl := Option.some.inj hF
              exact NX.end (rs := [.tmp 4]) (vs := [.bool false]) rfl ⟨rfl, trivial⟩ ⟨_, rfl, rfl, he42⟩

-- loop.example/g00861/spec.l03Kinds
def F_spec_l03Kinds_L1 (a0_c : S_Cell) (k0 : Int → (List Int) → Option (List Int)) : Nat → Int → (List Int) → Option (List Int)
  | 0 => fun _ _ => none
  | m + 1 => fun i31 l33 => (bif decide (i31 < (a0_c.Arcs.length : Int)) then (Option.bind (getI a0_c.Arcs i31) fun x36 => (Option.bind (getI l33 x36.Kind) fun x48 => (Option.bind (getI l33 x36.Kind) fun x55 => (F_spec_l03Kinds_L1 a0_c k0 m (IntKind.wrap IntKind.i64 (i31 + 1)) ((l33.set (x36.Kind).toNat (IntKind.wrap IntKind.i64 (x48 + 1)))))))) else (k0 i31 l33))
theorem F_spec_l03Kinds_L1_z (a0_c : S_Cell) (k0 : Int → (List Int) → Option (List Int)) (i31 : Int) (l33 : List Int) : F_spec_l03Kinds_L1 a0_c k0 0 i31 l33 = none := rfl
theorem F_spec_l03Kinds_L1_s (m : Nat) (a0_c : S_Cell) (k0 : Int → (List Int) → Option (List Int)) (i31 : Int) (l33 : List Int) : F_spec_l03Kinds_L1 a0_c k0 (m + 1) i31 l33 = (bif decide (i31 < (a0_c.Arcs.length : Int)) then (Option.bind (getI a0_c.Arcs i31) fun x36 => (Option.bind (getI l33 x36.Kind) fun x48 => (Option.bind (getI l33 x36.Kind) fun x55 => (F_spec_l03Kinds_L1 a0_c k0 m (IntKind.wrap IntKind.i64 (i31 + 1)) ((l33.set (x36.Kind).toNat (IntKind.wrap IntKind.i64 (x48 + 1)))))))) else (k0 i31 l33)) := rfl

def F_spec_l03Kinds (n : Nat) (a0_c : S_Cell) : Option (List Int) := (Option.bind (mkN 6 8) fun n14 => (F_spec_l03Kinds_L1 a0_c (fun i31 l33 => (some l33)) n 0 (List.replicate n14 0)))
set_option maxHeartbeats 40000000 in
theorem W_spec_l03Kinds {n : Nat} {a0_c : S_Cell} {r : List Int} {w : World} {v1 : Value} {v3 : Value} {v5 : Value} (hF : F_spec_l03Kinds n a0_c = some r) (ha2 : slRep C_Pin w (Iv 0 w.heap.size) a0_c.Pins v1) (ha4 : slRep C_Arc w (Iv 0 w.heap.size) a0_c.Arcs v3) (ha6 : slRep (cInt .i64) w (Iv 0 w.heap.size) a0_c.Truth v5) :
    Calls Tryz.prog 30 [.agg #[.string a0_c.Name, .int .i64 a0_c.Kind, v1, v3, v5, .int .i64 a0_c.Leak, .int .i64 a0_c.Energy]].toArray w (Ret fun u w2 => ∃ v0_0, u = v0_0 ∧ ownR (cInt .i64) w2 w.heap.size (Iv 0 0) 2 r v0_0 ∧ Ext w w2) := by
  refine calls_of Tryz.func30 rfl Tryz.ntmps30 ?_
  have he0 : Ext w w := Ext.refl w
  unfold F_spec_l03Kinds at hF
  refine WC.seq ?_
  refine WC.region ?_
  refine TL.eff rfl rfl (eff_box rfl rfl) ?_
  rintro _ w8 ⟨b7, rfl, hn9⟩
  obtain ⟨hn9e, hn9s, hn9x, hb10⟩ := hn9
  have hb10 : Box w8 b7 [.string a0_c.Name, .int .i64 a0_c.Kind, v1, v3, v5, .int .i64 a0_c.Leak, .int .i64 a0_c.Energy] 32 := hb10
  have he12 : Ext w w8 := Ext.trans he0 hn9x
  have hz13 := (hn9x).size
  have hlo11 : w.heap.size ≤ b7 := by rw [hn9e]; exact (he0).size
  refine TL.yld rfl rfl (yld_assign rfl rfl) ?_
  refine TL.done ?_
  refine NX.seq ?_
  refine WC.seq ?_
  refine WC.region ?_
  obtain ⟨n14, hk15, hF⟩ := bsome hF
  refine TL.eff rfl rfl (eff_make (c := (cInt .i64)) (z := 0) rfl Tryz.underlying24 in_2 rfl rfl rfl hk15 rfl rfl (fun _ => rfl)) ?_
  rintro v16 w17 ⟨g18, hv19, hg20, hz21, hx22, hs23⟩
  have he24 : Ext w w17 := Ext.trans he12 hx22
  have hb10 := Box.ext hb10 hx22
  have hz25 := (hx22).size
  have hlo26 : w.heap.size ≤ g18 := by rw [hg20]; exact (he12).size
  have hbd27 := bd_of hv19
  clear hv19
  refine TL.yld rfl rfl (yld_assign rfl rfl) ?_
  refine TL.done ?_
  refine NX.seq ?_
  refine WC.seq ?_
  refine WC.seq ?_
  refine WC.region ?_
  refine TL.yld rfl rfl (yld_assign rfl rfl) ?_
  refine TL.done ?_
  refine NX.seq ?_
  refine WC.block ?_
  refine WC.loop (fun m35 a wl => ∃ (i31 : Int) (l33 : List Int), Kn 25 [(1, .pointer (some ⟨b7, 0, none⟩)), (3, v16), (4, .int .i64 i31)] a ∧ Ext w wl ∧ w17.heap.size ≤ wl.heap.size ∧ Box wl b7 [.string a0_c.Name, .int .i64 a0_c.Kind, v1, v3, v5, .int .i64 a0_c.Leak, .int .i64 a0_c.Energy] 32 ∧ ownR (cInt .i64) wl (g18) (Iv 0 0) 2 l33 v16 ∧ F_spec_l03Kinds_L1 a0_c (fun i31 l33 => (some l33)) m35 i31 l33 = some r) n ?_ ?_
  · intro a hK; exact ⟨0, (List.replicate n14 0), hK.weaken ⟨rfl, rfl, rfl, trivial⟩, he24, Nat.le_refl _, hb10, hs23, hF⟩
  · rintro m35 a w29 ⟨i31, l33, hK, he30, hz36, hb32, hs34, hF⟩
    revert hK; revert a; refine (?_ : WC _ _ _ _ _ _)
    cases m35 with
    | zero => rw [F_spec_l03Kinds_L1_z] at hF; cases hF
    | succ m35 =>
      rw [F_spec_l03Kinds_L1_s] at hF
      refine WC.seq ?_
      refine WC.seq ?_
      refine WC.region ?_
      refine TL.yld rfl rfl (yld_move rfl rfl) ?_
      refine TL.yld rfl rfl (yld_fieldAddr rfl fo_32_3 rfl) ?_
      refine TL.yld rfl rfl (yld_load1 3 rfl ag_30 rfl (Box.cells hb32) rfl rfl) ?_
      refine TL.yld rfl rfl (ye_len (c := C_Arc) rfl Tryz.underlying30 rfl (slRep.old ha4 he30 (Nat.le_refl _))) ?_
      refine TL.yld rfl rfl (yld_lss rfl rfl rfl) ?_
      refine TL.done ?_
      refine NX.seq ?_
      refine WC.cond rfl ?_ ?_
      · intro hc37
        replace hF := bif_t hc37 hF
        refine WC.skip' ?_
        refine NX.seq ?_
        refine WC.seq ?_
        refine WC.block ?_
        refine WC.region ?_
        refine TL.yld rfl rfl (yld_move rfl rfl) ?_
        refine TL.yld rfl rfl (yld_fieldAddr rfl fo_32_3 rfl) ?_
        refine TL.yld rfl rfl (yld_load1 3 rfl ag_30 rfl (Box.cells hb32) rfl rfl) ?_
        refine TL.yld rfl rfl (yld_move rfl rfl) ?_
        obtain ⟨x38, hy39, hF⟩ := bsome hF
        refine TL.ye rfl rfl (ye_index (c := C_Arc) rfl Tryz.underlying30 cn_62 rfl rfl (slRep.old ha4 he30 (Nat.le_refl _)) hy39) ?_
        rintro _ ⟨b40, o41, us42, rfl, hib45, hr43, hcl44⟩
        have hib45 : 0 ≤ b40 ∧ b40 < w.heap.size := ⟨hib45.1, by have := hib45.2; omega⟩
        obtain ⟨v46, v47, rfl, hs48, hs49⟩ := C_Arc_open hr43
        refine TL.yld rfl rfl (yld_fieldAddr rfl fo_62_0 rfl) ?_
        refine TL.yld rfl rfl (yld_load1 0 rfl ag_2 rfl hcl44 rfl rfl) ?_
        obtain ⟨x50, hy51, hF⟩ := bsome hF
        refine TL.ye rfl rfl (ye_index_own (c := (cInt .i64)) rfl Tryz.underlying24 cn_2 rfl rfl hs34 hy51) ?_
        rintro _ ⟨g52, us54, rfl, hg53, hr55, hcl56⟩
        obtain rfl := hr55
        refine TL.yld rfl rfl (yld_load1 0 rfl ag_2 rfl hcl56 rfl rfl) ?_
        refine TL.yld rfl rfl (yld_add rfl rfl rfl) ?_
        obtain ⟨x57, hy58, hF⟩ := bsome hF
        refine TL.ye rfl rfl (ye_index_own (c := (cInt .i64)) rfl Tryz.underlying24 cn_2 rfl rfl hs34 hy58) ?_
        rintro _ ⟨g59, us61, rfl, hg60, hr62, hcl63⟩
        have hr62r := hr62
        obtain rfl := hr62
        refine TL.eff rfl rfl (eff_store_own (c := (cInt .i64)) (us' := [.int .i64 (IntKind.wrap IntKind.i64 (x50 + 1))]) (y' := IntKind.wrap IntKind.i64 (x50 + 1)) 0 _ rfl rfl rfl hs34 hg60 hy58 rfl cn_2 rfl hr62r hcl63 rfl rfl rfl (fun k h => absurd h.2 (Nat.not_lt_zero k))) ?_
        rintro _ w64 ⟨hu65, hs66⟩
        have he67 : Ext w w64 := Below.trans he30 (Upd.below hu65 (by have := hbd27 _ hg60; omega))
        have hb32 := Box.upd hb32 hu65 (by have := hbd27 _ hg60; omega)
        have hz68 := (hu65).size
        refine TL.done ?_
        refine NX.blk_n ?_
        refine NX.seq ?_
        refine WC.region ?_
        refine TL.yld rfl rfl (yld_move rfl rfl) ?_
        refine TL.yld rfl rfl (yld_add rfl rfl rfl) ?_
        refine TL.yld rfl rfl (yld_assign rfl rfl) ?_
        refine TL.done ?_
        refine NX.then_n ?_
        intro a hK; exact ⟨m35, Nat.lt_succ_self m35, (IntKind.wrap IntKind.i64 (i31 + 1)), ((l33.set (x38.Kind).toNat (IntKind.wrap IntKind.i64 (x50 + 1)))), hK.weaken ⟨rfl, rfl, rfl, trivial⟩, he67, (by omega), hb32, hs66, hF⟩
      · intro hc69
        replace hF := bif_f hc69 hF
        refine WC.exit' ?_
        refine NX.then_e ?_
        refine NX.then_e ?_
        refine NX.blk_hit ?_
        refine NX.seq ?_
        refine WC.seq ?_
        refine WC.region ?_
        refine TL.yld rfl rfl (yld_move rfl rfl) ?_
        refine TL.yld rfl rfl (yld_assign rfl rfl) ?_
        refine TL.done ?_
        refine NX.seq ?_
        refine WC.ret' ?_
        obtain rfl := Option.some.inj hF
        exact NX.end (rs := [.tmp 2]) (vs := [v16]) rfl ⟨rfl, trivial⟩ ⟨_, rfl, _, rfl, ownR.base hs34 (by omega), he30⟩

end Go.Proofs.YthjagnioabgceabGreatDoor
