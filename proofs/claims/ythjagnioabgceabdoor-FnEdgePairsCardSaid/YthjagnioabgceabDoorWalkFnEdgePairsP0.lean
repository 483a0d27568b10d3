/- The walks: every function that FnEdgePairs reaches computes the plain function that is typed beside it; no condition. -/
import Derived.Test.YthjagnioabgceabDoorProg
import Derived.Test.YthjagnioabgceabDoorDat
import Derived.Test.YthjagnioabgceabDoorShelf
set_option linter.all false
set_option maxRecDepth 20000
namespace Go.Proofs.YthjagnioabgceabDoor
open Go Go.RowKit Go.Eng
theorem Tryd.hm : Tryd.prog.follows .mixedOrders = true := by kernel_rfl
theorem ag_2 : aggB Tryd.prog 2 = some false := by kernel_rfl
theorem ag_3 : aggB Tryd.prog 3 = some false := by kernel_rfl
theorem ag_34 : aggB Tryd.prog 34 = some false := by kernel_rfl
theorem ag_4 : aggB Tryd.prog 4 = some false := by kernel_rfl
theorem ag_42 : aggB Tryd.prog 42 = some false := by kernel_rfl
theorem ag_5 : aggB Tryd.prog 5 = some false := by kernel_rfl
theorem ag_75 : aggB Tryd.prog 75 = some true := by kernel_rfl
theorem ag_79 : aggB Tryd.prog 79 = some true := by kernel_rfl
theorem ag_84 : aggB Tryd.prog 84 = some true := by kernel_rfl
theorem ag_86 : aggB Tryd.prog 86 = some true := by kernel_rfl
theorem ag_9 : aggB Tryd.prog 9 = some false := by kernel_rfl
theorem cn_2 : cellsN Tryd.prog 2 = some 1 := by kernel_rfl
theorem cn_3 : cellsN Tryd.prog 3 = some 1 := by kernel_rfl
theorem cn_4 : cellsN Tryd.prog 4 = some 1 := by kernel_rfl
theorem cn_42 : cellsN Tryd.prog 42 = some 1 := by kernel_rfl
theorem cn_5 : cellsN Tryd.prog 5 = some 1 := by kernel_rfl
theorem cn_75 : cellsN Tryd.prog 75 = some 11 := by kernel_rfl
theorem cn_79 : cellsN Tryd.prog 79 = some 3 := by kernel_rfl
theorem cn_84 : cellsN Tryd.prog 84 = some 3 := by kernel_rfl
theorem cn_86 : cellsN Tryd.prog 86 = some 9 := by kernel_rfl
theorem cn_9 : cellsN Tryd.prog 9 = some 1 := by kernel_rfl
theorem fo_127_0 : fieldOff Tryd.prog 127 0 = some 0 := by kernel_rfl
theorem fo_127_1 : fieldOff Tryd.prog 127 1 = some 1 := by kernel_rfl
theorem fo_127_2 : fieldOff Tryd.prog 127 2 = some 2 := by kernel_rfl
theorem fo_75_0 : fieldOff Tryd.prog 75 0 = some 0 := by kernel_rfl
theorem fo_75_1 : fieldOff Tryd.prog 75 1 = some 1 := by kernel_rfl
theorem fo_75_10 : fieldOff Tryd.prog 75 10 = some 10 := by kernel_rfl
theorem fo_75_2 : fieldOff Tryd.prog 75 2 = some 2 := by kernel_rfl
theorem fo_75_3 : fieldOff Tryd.prog 75 3 = some 3 := by kernel_rfl
theorem fo_75_4 : fieldOff Tryd.prog 75 4 = some 4 := by kernel_rfl
theorem fo_75_5 : fieldOff Tryd.prog 75 5 = some 5 := by kernel_rfl
theorem fo_75_6 : fieldOff Tryd.prog 75 6 = some 6 := by kernel_rfl
theorem fo_75_7 : fieldOff Tryd.prog 75 7 = some 7 := by kernel_rfl
theorem fo_75_8 : fieldOff Tryd.prog 75 8 = some 8 := by kernel_rfl
theorem fo_75_9 : fieldOff Tryd.prog 75 9 = some 9 := by kernel_rfl
theorem fo_79_0 : fieldOff Tryd.prog 79 0 = some 0 := by kernel_rfl
theorem fo_79_1 : fieldOff Tryd.prog 79 1 = some 1 := by kernel_rfl
theorem fo_79_2 : fieldOff Tryd.prog 79 2 = some 2 := by kernel_rfl
theorem fo_84_0 : fieldOff Tryd.prog 84 0 = some 0 := by kernel_rfl
theorem fo_84_1 : fieldOff Tryd.prog 84 1 = some 1 := by kernel_rfl
theorem fo_86_0 : fieldOff Tryd.prog 86 0 = some 0 := by kernel_rfl
theorem fo_86_1 : fieldOff Tryd.prog 86 1 = some 3 := by kernel_rfl
theorem fo_86_2 : fieldOff Tryd.prog 86 2 = some 6 := by kernel_rfl
theorem fo_86_3 : fieldOff Tryd.prog 86 3 = some 7 := by kernel_rfl
theorem fo_86_4 : fieldOff Tryd.prog 86 4 = some 8 := by kernel_rfl
theorem ft_79_0 : fieldT Tryd.prog 79 0 = some (2, 0) := by kernel_rfl
theorem ft_84_0 : fieldT Tryd.prog 84 0 = some (2, 0) := by kernel_rfl
theorem gf_100 : goFn Tryd.prog 100 = true := by kernel_rfl
theorem gf_101 : goFn Tryd.prog 101 = true := by kernel_rfl
theorem gf_102 : goFn Tryd.prog 102 = true := by kernel_rfl
theorem gf_103 : goFn Tryd.prog 103 = true := by kernel_rfl
theorem gf_104 : goFn Tryd.prog 104 = true := by kernel_rfl
theorem gf_109 : goFn Tryd.prog 109 = true := by kernel_rfl
theorem gf_115 : goFn Tryd.prog 115 = true := by kernel_rfl
theorem gf_120 : goFn Tryd.prog 120 = true := by kernel_rfl
theorem gf_121 : goFn Tryd.prog 121 = true := by kernel_rfl
theorem gf_129 : goFn Tryd.prog 129 = true := by kernel_rfl
theorem gf_130 : goFn Tryd.prog 130 = true := by kernel_rfl
theorem gf_131 : goFn Tryd.prog 131 = true := by kernel_rfl
theorem gf_132 : goFn Tryd.prog 132 = true := by kernel_rfl
theorem gf_133 : goFn Tryd.prog 133 = true := by kernel_rfl
theorem gf_134 : goFn Tryd.prog 134 = true := by kernel_rfl
theorem gf_135 : goFn Tryd.prog 135 = true := by kernel_rfl
theorem gf_138 : goFn Tryd.prog 138 = true := by kernel_rfl
theorem gf_139 : goFn Tryd.prog 139 = true := by kernel_rfl
theorem gf_144 : goFn Tryd.prog 144 = true := by kernel_rfl
theorem gf_149 : goFn Tryd.prog 149 = true := by kernel_rfl
theorem gf_150 : goFn Tryd.prog 150 = true := by kernel_rfl
theorem gf_168 : goFn Tryd.prog 168 = true := by kernel_rfl
theorem gf_23 : goFn Tryd.prog 23 = true := by kernel_rfl
theorem gf_24 : goFn Tryd.prog 24 = true := by kernel_rfl
theorem gf_25 : goFn Tryd.prog 25 = true := by kernel_rfl
theorem gf_26 : goFn Tryd.prog 26 = true := by kernel_rfl
theorem gf_27 : goFn Tryd.prog 27 = true := by kernel_rfl
theorem gf_28 : goFn Tryd.prog 28 = true := by kernel_rfl
theorem gf_47 : goFn Tryd.prog 47 = true := by kernel_rfl
theorem gf_48 : goFn Tryd.prog 48 = true := by kernel_rfl
theorem gf_51 : goFn Tryd.prog 51 = true := by kernel_rfl
theorem gf_52 : goFn Tryd.prog 52 = true := by kernel_rfl
theorem gf_53 : goFn Tryd.prog 53 = true := by kernel_rfl
theorem gf_54 : goFn Tryd.prog 54 = true := by kernel_rfl
theorem gf_57 : goFn Tryd.prog 57 = true := by kernel_rfl
theorem gf_58 : goFn Tryd.prog 58 = true := by kernel_rfl
theorem gf_59 : goFn Tryd.prog 59 = true := by kernel_rfl
theorem gf_60 : goFn Tryd.prog 60 = true := by kernel_rfl
theorem gf_61 : goFn Tryd.prog 61 = true := by kernel_rfl
theorem gf_62 : goFn Tryd.prog 62 = true := by kernel_rfl
theorem gf_63 : goFn Tryd.prog 63 = true := by kernel_rfl
theorem gf_64 : goFn Tryd.prog 64 = true := by kernel_rfl
theorem gf_65 : goFn Tryd.prog 65 = true := by kernel_rfl
theorem gf_71 : goFn Tryd.prog 71 = true := by kernel_rfl
theorem gf_82 : goFn Tryd.prog 82 = true := by kernel_rfl
theorem gf_93 : goFn Tryd.prog 93 = true := by kernel_rfl
theorem gf_94 : goFn Tryd.prog 94 = true := by kernel_rfl
theorem gf_95 : goFn Tryd.prog 95 = true := by kernel_rfl
theorem gf_96 : goFn Tryd.prog 96 = true := by kernel_rfl
theorem gf_97 : goFn Tryd.prog 97 = true := by kernel_rfl
theorem gf_98 : goFn Tryd.prog 98 = true := by kernel_rfl
theorem gf_99 : goFn Tryd.prog 99 = true := by kernel_rfl
theorem in_2 : infoN Tryd.prog 2 = some ([.int .i64 0], 1, 8) := by kernel_rfl
theorem in_42 : infoN Tryd.prog 42 = some ([.slice none 0 0], 1, 24) := by kernel_rfl
theorem in_5 : infoN Tryd.prog 5 = some ([.int .u8 0], 1, 1) := by kernel_rfl
theorem in_75 : infoN Tryd.prog 75 = some ([.string ByteArray.empty, .int .i64 0, .int .i64 0, .int .i64 0, .int .i64 0, .int .i64 0, .int .i64 0, .bool false, .int .i64 0, .int .i64 0, .int .i64 0], 11, 96) := by kernel_rfl
theorem in_9 : infoN Tryd.prog 9 = some ([.string ByteArray.empty], 1, 16) := by kernel_rfl
theorem pl_127 : placesN Tryd.prog 127 = some [(0, 1), (1, 1), (2, 1)] := by kernel_rfl
theorem pl_75 : placesN Tryd.prog 75 = some [(0, 1), (1, 1), (2, 1), (3, 1), (4, 1), (5, 1), (6, 1), (7, 1), (8, 1), (9, 1), (10, 1)] := by kernel_rfl
theorem pl_79 : placesN Tryd.prog 79 = some [(0, 1), (1, 1), (2, 1)] := by kernel_rfl
theorem pl_82 : placesN Tryd.prog 82 = some [(0, 1), (1, 1)] := by kernel_rfl
theorem pl_84 : placesN Tryd.prog 84 = some [(0, 1), (1, 2)] := by kernel_rfl
theorem pl_86 : placesN Tryd.prog 86 = some [(0, 3), (3, 3), (6, 1), (7, 1), (8, 1)] := by kernel_rfl
theorem zn_127 : zeroN Tryd.prog 127 = some [.slice none 0 0, .int .i64 0, .int .i64 0] := by kernel_rfl
theorem zn_75 : zeroN Tryd.prog 75 = some [.string ByteArray.empty, .int .i64 0, .int .i64 0, .int .i64 0, .int .i64 0, .int .i64 0, .int .i64 0, .bool false, .int .i64 0, .int .i64 0, .int .i64 0] := by kernel_rfl
theorem zn_79 : zeroN Tryd.prog 79 = some [.int .i64 0, .int .i64 0, .int .i64 0] := by kernel_rfl
theorem zn_82 : zeroN Tryd.prog 82 = some [.int .i64 0, .int .i64 0] := by kernel_rfl
theorem zn_84 : zeroN Tryd.prog 84 = some [.int .i64 0, .int .i64 0, .int .i64 0] := by kernel_rfl
theorem zn_86 : zeroN Tryd.prog 86 = some [.int .i64 0, .int .i64 0, .int .i64 0, .int .i64 0, .int .i64 0, .int .i64 0, .int .i64 0, .int .i64 0, .int .i64 0] := by kernel_rfl
-- loop.example/g00861/laws.big
def F_laws_big (n : Nat) (a0_code : List Int) : Option Bool := (some (decide ((a0_code.length : Int) > 4096)))
set_option maxHeartbeats 40000000 in
theorem W_laws_big {n : Nat} {a0_code : List Int} {r : Bool} {w : World} {v1 : Value} (hF : F_laws_big n a0_code = some r) (ha2 : slRep (cInt .u8) w (Iv 0 w.heap.size) a0_code v1) :
    Calls Tryd.prog 23 [v1].toArray w (Ret fun u w2 => u = .bool r ∧ Ext w w2) := by
  refine calls_of Tryd.func23 rfl Tryd.ntmps23 ?_
  have he0 : Ext w w := Ext.refl w
  unfold F_laws_big at hF
  refine WC.seq ?_
  refine WC.region ?_
  refine TL.yld rfl rfl (yld_assign rfl rfl) ?_
  refine TL.done ?_
  refine NX.seq ?_
  refine WC.seq ?_
  refine WC.region ?_
  refine TL.yld rfl rfl (yld_move rfl rfl) ?_
  refine TL.yld rfl rfl (ye_len (c := (cInt .u8)) rfl Tryd.underlying34 rfl (slRep.old ha2 he0 (Nat.le_refl _))) ?_
  refine TL.yld rfl rfl (yld_gtr rfl rfl rfl) ?_
  refine TL.yld rfl rfl (yld_assign rfl rfl) ?_
  refine TL.done ?_
  refine NX.seq ?_
  refine WC.ret' ?_
  obtain rfl := Option.some.inj hF
  exact NX.end (rs := [.tmp 2]) (vs := [.bool (decide ((a0_code.length : Int) > 4096))]) rfl ⟨rfl, trivial⟩ ⟨_, rfl, rfl, he0⟩

-- loop.example/g00861/spec.l01From
def F_spec_l01From_L1 (a0_code : List Int) (k0 : Int → Int → Int → Option S_l01Source) : Nat → Int → Int → Int → Option S_l01Source
  | 0 => fun _ _ _ => none
  | m + 1 => fun i12 i14 i15 => (bif ((decide (i12 < (a0_code.length : Int))) && (decide (i12 < 64))) then (Option.bind (getI a0_code i12) fun x22 => (F_spec_l01From_L1 a0_code k0 m (IntKind.wrap IntKind.i64 (i12 + 1)) i14 (Int.tmod (IntKind.wrap IntKind.i64 ((IntKind.wrap IntKind.i64 (i15 * 31)) + (IntKind.wrap IntKind.i64 x22))) 2147483647))) else (k0 i12 i14 i15))
theorem F_spec_l01From_L1_z (a0_code : List Int) (k0 : Int → Int → Int → Option S_l01Source) (i12 : Int) (i14 : Int) (i15 : Int) : F_spec_l01From_L1 a0_code k0 0 i12 i14 i15 = none := rfl
theorem F_spec_l01From_L1_s (m : Nat) (a0_code : List Int) (k0 : Int → Int → Int → Option S_l01Source) (i12 : Int) (i14 : Int) (i15 : Int) : F_spec_l01From_L1 a0_code k0 (m + 1) i12 i14 i15 = (bif ((decide (i12 < (a0_code.length : Int))) && (decide (i12 < 64))) then (Option.bind (getI a0_code i12) fun x22 => (F_spec_l01From_L1 a0_code k0 m (IntKind.wrap IntKind.i64 (i12 + 1)) i14 (Int.tmod (IntKind.wrap IntKind.i64 ((IntKind.wrap IntKind.i64 (i15 * 31)) + (IntKind.wrap IntKind.i64 x22))) 2147483647))) else (k0 i12 i14 i15)) := rfl

def F_spec_l01From (n : Nat) (a0_code : List Int) : Option S_l01Source := (F_spec_l01From_L1 a0_code (fun i12 i14 i15 => (some ((S_l01Source.mk a0_code i14 i15)))) n 0 0 12345)
set_option maxHeartbeats 40000000 in
theorem W_spec_l01From {n : Nat} {a0_code : List Int} {r : S_l01Source} {w : World} {v1 : Value} (hF : F_spec_l01From n a0_code = some r) (ha2 : slRep (cInt .u8) w (Iv 0 w.heap.size) a0_code v1) :
    Calls Tryd.prog 57 [v1].toArray w (Ret fun u w2 => ∃ b0, u = .pointer (some ⟨b0, 0, none⟩) ∧ Box w2 b0 [v1, .int .i64 r.at_, .int .i64 r.seed_] 127 ∧ w.heap.size ≤ b0 ∧ Ext w w2) := by
  refine calls_of Tryd.func57 rfl Tryd.ntmps57 ?_
  have he0 : Ext w w := Ext.refl w
  unfold F_spec_l01From at hF
  refine WC.seq ?_
  refine WC.region ?_
  refine TL.yld rfl rfl (yld_assign rfl rfl) ?_
  refine TL.done ?_
  refine NX.seq ?_
  refine WC.seq ?_
  refine WC.region ?_
  refine TL.yld rfl rfl (yld_move rfl rfl) ?_
  refine TL.yld rfl rfl (yld_build (uss := [(0, [v1]), (2, [.int .i64 12345])]) (out := [v1, .int .i64 0, .int .i64 12345]) rfl rfl zn_127 pl_127 (pt_cons (slRep.cl (slRep.old ha2 he0 (Nat.le_refl _))) (pt_cons rfl rfl)) rfl) ?_
  refine TL.eff rfl rfl (eff_box rfl rfl) ?_
  rintro _ w4 ⟨b3, rfl, hn5⟩
  obtain ⟨hn5e, hn5s, hn5x, hb6⟩ := hn5
  have hb6 : Box w4 b3 [v1, .int .i64 0, .int .i64 12345] 127 := hb6
  have he8 : Ext w w4 := Ext.trans he0 hn5x
  have hz9 := (hn5x).size
  have hlo7 : w.heap.size ≤ b3 := by rw [hn5e]; exact (he0).size
  refine TL.yld rfl rfl (yld_assign rfl rfl) ?_
  refine TL.done ?_
  refine NX.seq ?_
  refine WC.seq ?_
  refine WC.seq ?_
  refine WC.region ?_
  refine TL.yld rfl rfl (yld_assign rfl rfl) ?_
  refine TL.done ?_
  refine NX.seq ?_
  refine WC.block ?_
  refine WC.loop (fun m16 a wl => ∃ (i12 : Int) (i14 : Int) (i15 : Int), Kn 34 [(0, v1), (3, .pointer (some ⟨b3, 0, none⟩)), (4, .int .i64 i12)] a ∧ Ext w wl ∧ w4.heap.size ≤ wl.heap.size ∧ Box wl b3 [v1, .int .i64 i14, .int .i64 i15] 127 ∧ F_spec_l01From_L1 a0_code (fun i12 i14 i15 => (some ((S_l01Source.mk a0_code i14 i15)))) m16 i12 i14 i15 = some r) n ?_ ?_
  · intro a hK; exact ⟨0, 0, 12345, hK.weaken ⟨rfl, rfl, rfl, trivial⟩, he8, Nat.le_refl _, hb6, hF⟩
  · rintro m16 a w10 ⟨i12, i14, i15, hK, he11, hz17, hb13, hF⟩
    revert hK; revert a; refine (?_ : WC _ _ _ _ _ _)
    cases m16 with
    | zero => rw [F_spec_l01From_L1_z] at hF; cases hF
    | succ m16 =>
      rw [F_spec_l01From_L1_s] at hF
      refine WC.seq ?_
      refine WC.seq ?_
      refine WC.region ?_
      refine TL.yld rfl rfl (yld_move rfl rfl) ?_
      refine TL.yld rfl rfl (yld_move rfl rfl) ?_
      refine TL.yld rfl rfl (ye_len (c := (cInt .u8)) rfl Tryd.underlying34 rfl (slRep.old ha2 he11 (Nat.le_refl _))) ?_
      refine TL.yld rfl rfl (yld_lss rfl rfl rfl) ?_
      refine TL.yld rfl rfl (yld_move rfl rfl) ?_
      refine TL.cut 3 [(0, v1), (3, .pointer (some ⟨b3, 0, none⟩)), (4, .int .i64 i12), (15, .bool (((decide (i12 < (a0_code.length : Int))) && (decide (i12 < 64)))))] (fun w' => Ext w10 w') ?_ ?_
      · rcases Bool.eq_false_or_eq_true (decide (i12 < (a0_code.length : Int))) with hg18 | hg18
        ·
          refine TL.gy (j := 4) (t := 12) rfl rfl rfl hg18 rfl (yld_move rfl rfl) ?_
          refine TL.gy (j := 4) (t := 12) rfl rfl rfl hg18 rfl (yld_lss rfl rfl rfl) ?_
          refine TL.yld rfl rfl (yld_and_t rfl rfl hg18 rfl) ?_
          exact TL.nil fun a h => ⟨h.weaken ⟨rfl, rfl, rfl, rfl, trivial⟩, Ext.refl _⟩
        ·
          refine TL.gnu (j := 4) (t := 12) rfl rfl rfl hg18 rfl ?_
          refine TL.gnu (j := 4) (t := 12) rfl rfl rfl hg18 rfl ?_
          refine TL.yld rfl rfl (yld_and_f (b2 := decide (i12 < 64)) rfl rfl hg18 rfl) ?_
          exact TL.nil fun a h => ⟨h.weaken ⟨rfl, rfl, rfl, rfl, trivial⟩, Ext.refl _⟩
      intro w19 hx20
      have he21 : Ext w w19 := Ext.trans he11 hx20
      have hb13 := Box.ext hb13 hx20
      have hz22 := (hx20).size
      refine TL.done ?_
      refine NX.seq ?_
      refine WC.cond rfl ?_ ?_
      · intro hc23
        replace hF := bif_t hc23 hF
        refine WC.skip' ?_
        refine NX.seq ?_
        refine WC.seq ?_
        refine WC.block ?_
        obtain ⟨x24, hy25, hF⟩ := bsome hF
        refine WC.held 13 Tryd.hm fun w37 hx38 => ?_
        have he39 : Ext w w37 := Ext.trans he21 hx38
        have hb13 := Box.ext hb13 hx38
        have hz40 := (hx38).size
        refine HL.yld 0 (by kernel_rfl) rfl (by kernel_rfl) rfl rfl (yld_move rfl rfl) ?_
        refine HL.yld 1 (by kernel_rfl) rfl (by kernel_rfl) rfl rfl (yld_move rfl rfl) ?_
        refine HL.yld 2 (by kernel_rfl) rfl (by kernel_rfl) rfl rfl (yld_nilCheck rfl rfl) ?_
        refine HL.yld 3 (by kernel_rfl) rfl (by kernel_rfl) rfl rfl (yld_fieldAddr rfl fo_127_2 rfl) ?_
        refine HL.yld 4 (by kernel_rfl) rfl (by kernel_rfl) rfl rfl (yld_load1 2 rfl ag_2 rfl (Box.cells hb13) rfl rfl) ?_
        refine HL.yld 5 (by kernel_rfl) rfl (by kernel_rfl) rfl rfl (yld_mul rfl rfl rfl) ?_
        refine HL.yld 6 (by kernel_rfl) rfl (by kernel_rfl) rfl rfl (yld_move rfl rfl) ?_
        refine HL.yld 7 (by kernel_rfl) rfl (by kernel_rfl) rfl rfl (yld_move rfl rfl) ?_
        refine HL.ye 8 (by kernel_rfl) rfl (by kernel_rfl) rfl rfl (ye_index (c := (cInt .u8)) rfl Tryd.underlying34 cn_5 rfl rfl (slRep.old ha2 he39 (Nat.le_refl _)) hy25) ?_
        rintro _ ⟨b41, o42, us43, rfl, hib46, hr44, hcl45⟩
        have hib46 : 0 ≤ b41 ∧ b41 < w.heap.size := ⟨hib46.1, by have := hib46.2; omega⟩
        obtain rfl := hr44
        refine HL.yld 9 (by kernel_rfl) rfl (by kernel_rfl) rfl rfl (yld_load1 0 rfl ag_5 rfl hcl45 rfl rfl) ?_
        refine HL.yld 10 (by kernel_rfl) rfl (by kernel_rfl) rfl rfl (yld_conv rfl Tryd.underlying5 Tryd.underlying2 rfl) ?_
        refine HL.yld 11 (by kernel_rfl) rfl (by kernel_rfl) rfl rfl (yld_add rfl rfl rfl) ?_
        refine HL.yld 12 (by kernel_rfl) rfl (by kernel_rfl) rfl rfl (yld_rem rfl rfl rfl (by decide)) ?_
        refine HL.tail rfl (by kernel_rfl) rfl ?_
        refine TL.yld rfl rfl (yld_nilCheck rfl rfl) ?_
        refine TL.yld rfl rfl (yld_fieldAddr rfl fo_127_2 rfl) ?_
        refine TL.eff rfl rfl (eff_store rfl rfl rfl hb13 cn_2 rfl rfl) ?_
        rintro _ w47 ⟨hu48, hb49⟩
        have he50 : Ext w w47 := Below.trans he39 (Upd.below hu48 (by omega))
        have hz51 := (hu48).size
        have hb13 : Box w47 b3 [v1, .int .i64 i14, .int .i64 (Int.tmod (IntKind.wrap IntKind.i64 ((IntKind.wrap IntKind.i64 (i15 * 31)) + (IntKind.wrap IntKind.i64 x24))) 2147483647)] 127 := hb49
        refine TL.noPan (l := []) ?_
        refine NX.blk_n ?_
        refine NX.seq ?_
        refine WC.region ?_
        refine TL.yld rfl rfl (yld_move rfl rfl) ?_
        refine TL.yld rfl rfl (yld_add rfl rfl rfl) ?_
        refine TL.yld rfl rfl (yld_assign rfl rfl) ?_
        refine TL.done ?_
        refine NX.then_n ?_
        intro a hK; exact ⟨m16, Nat.lt_succ_self m16, (IntKind.wrap IntKind.i64 (i12 + 1)), i14, (Int.tmod (IntKind.wrap IntKind.i64 ((IntKind.wrap IntKind.i64 (i15 * 31)) + (IntKind.wrap IntKind.i64 x24))) 2147483647), hK.weaken ⟨rfl, rfl, rfl, trivial⟩, he50, (by omega), hb13, hF⟩
      · intro hc52
        replace hF := bif_f hc52 hF
        refine WC.exit' ?_
        refine NX.then_e ?_
        refine NX.then_e ?_
        refine NX.blk_hit ?_
        refine NX.seq ?_
        refine WC.seq ?_
        refine WC.region ?_
        refine TL.yld rfl rfl (yld_move rfl rfl) ?_
        refine TL.yld rfl rfl (yld_assign rfl rfl) ?_
        refine TL.done ?_
        refine NX.seq ?_
        refine WC.ret' ?_
        obtain rfl := Option.some.inj hF
        exact NX.end (rs := [.tmp 2]) (vs := [.pointer (some ⟨b3, 0, none⟩)]) rfl ⟨rfl, trivial⟩ ⟨_, rfl, _, rfl, hb13, (by omega), he21⟩

-- loop.example/g00861/spec.l01Next
def F_spec_l01Next (n : Nat) (a0_s : S_l01Source) (a1_n : Int) : Option (Int × S_l01Source) := (bif decide (a1_n ≤ 1) then (some (0, a0_s)) else (bif decide (a0_s.at_ < (a0_s.code_.length : Int)) then (Option.bind (getI a0_s.code_ a0_s.at_) fun x15 => (bif decide (a1_n ≤ 256) then (bif (a1_n == 0) then none else (some (Int.tmod (IntKind.wrap IntKind.i64 x15) a1_n, (S_l01Source.mk a0_s.code_ (IntKind.wrap IntKind.i64 (a0_s.at_ + 1)) a0_s.seed_)))) else (bif (a1_n == 0) then none else (some (Int.tmod (Int.tmod (IntKind.wrap IntKind.i64 ((IntKind.wrap IntKind.i64 ((IntKind.wrap IntKind.i64 (a0_s.seed_ * 48271)) + (IntKind.wrap IntKind.i64 x15))) + 1)) 2147483647) a1_n, (S_l01Source.mk a0_s.code_ (IntKind.wrap IntKind.i64 (a0_s.at_ + 1)) (Int.tmod (IntKind.wrap IntKind.i64 ((IntKind.wrap IntKind.i64 ((IntKind.wrap IntKind.i64 (a0_s.seed_ * 48271)) + (IntKind.wrap IntKind.i64 x15))) + 1)) 2147483647))))))) else (bif (a1_n == 0) then none else (some (Int.tmod (IntKind.wrap IntKind.i64 (Int.tdiv (Int.tmod (IntKind.wrap IntKind.i64 ((IntKind.wrap IntKind.i64 (a0_s.seed_ * 48271)) + 11)) 2147483647) 7)) a1_n, (S_l01Source.mk a0_s.code_ a0_s.at_ (Int.tmod (IntKind.wrap IntKind.i64 ((IntKind.wrap IntKind.i64 (a0_s.seed_ * 48271)) + 11)) 2147483647)))))))
set_option maxHeartbeats 40000000 in
theorem W_spec_l01Next {n : Nat} {a0_s : S_l01Source} {a1_n : Int} {r : Int × S_l01Source} {w : World} {v1 : Value} {lo3 hi4 : Nat} {b0_ : Nat} (hF : F_spec_l01Next n a0_s a1_n = some r) (hb5 : Box w b0_ [v1, .int .i64 a0_s.at_, .int .i64 a0_s.seed_] 127) (ha2 : slRep (cInt .u8) w (Iv lo3 hi4) a0_s.code_ v1) (hh6 : hi4 ≤ w.heap.size) (hh7 : b0_ < lo3 ∨ hi4 ≤ b0_) :
    Calls Tryd.prog 71 [.pointer (some ⟨b0_, 0, none⟩), .int .i64 a1_n].toArray w (Ret fun u w2 => u = .int .i64 r.1 ∧ Box w2 b0_ [v1, .int .i64 r.2.at_, .int .i64 r.2.seed_] 127 ∧ But (pB b0_) w w2) := by
  refine calls_of Tryd.func71 rfl Tryd.ntmps71 ?_
  have he0 : But (pB b0_) w w := But.refl _ w
  have := Box.lt hb5
  unfold F_spec_l01Next at hF
  refine WC.seq ?_
  refine WC.region ?_
  refine TL.yld rfl rfl (yld_assign rfl rfl) ?_
  refine TL.done ?_
  refine NX.seq ?_
  refine WC.seq ?_
  refine WC.seq ?_
  refine WC.region ?_
  refine TL.yld rfl rfl (yld_move rfl rfl) ?_
  refine TL.yld rfl rfl (yld_leq rfl rfl rfl) ?_
  refine TL.done ?_
  refine NX.seq ?_
  refine WC.cond rfl ?_ ?_
  · intro hc8
    replace hF := bif_t hc8 hF
    refine WC.seq ?_
    refine WC.region ?_
    refine TL.yld rfl rfl (yld_assign rfl rfl) ?_
    refine TL.done ?_
    refine NX.seq ?_
    refine WC.ret' ?_
    refine NX.then_r ?_
    obtain rfl := Option.some.inj hF
    exact NX.end (rs := [.tmp 4]) (vs := [.int .i64 0]) rfl ⟨rfl, trivial⟩ ⟨_, rfl, rfl, hb5, he0⟩
  · intro hc9
    replace hF := bif_f hc9 hF
    refine WC.skip' ?_
    refine NX.seq ?_
    refine WC.seq ?_
    refine WC.seq ?_
    refine WC.quiet Tryd.hm (by kernel_rfl) ?_
    refine QL.yld rfl rfl (Yld.qui (yld_move rfl rfl)) ?_
    refine QL.yld rfl rfl (Yld.qui (yld_nilCheck rfl rfl)) ?_
    refine QL.yld rfl rfl (Yld.qui (yld_fieldAddr rfl fo_127_1 rfl)) ?_
    refine QL.yld rfl rfl (Yld.qui (yld_load1 1 rfl ag_3 rfl (Box.cells hb5) rfl rfl)) ?_
    refine QL.yld rfl rfl (Yld.qui (yld_move rfl rfl)) ?_
    refine QL.yld rfl rfl (Yld.qui (yld_nilCheck rfl rfl)) ?_
    refine QL.yld rfl rfl (Yld.qui (yld_fieldAddr rfl fo_127_0 rfl)) ?_
    refine QL.yld rfl rfl (Yld.qui (yld_load1 0 rfl ag_34 rfl (Box.cells hb5) rfl rfl)) ?_
    refine QL.yld rfl rfl (Yld.qui (ye_len (c := (cInt .u8)) rfl Tryd.underlying34 rfl ha2)) ?_
    refine QL.yld rfl rfl (Yld.qui (yld_lss rfl rfl rfl)) ?_
    refine QL.done fun w10 hx11 => ?_
    have he12 : But (pB b0_) w w10 := But.ext he0 hx11
    have hb5 := Box.ext hb5 hx11
    have ha2 := slRep.old ha2 hx11 (by omega)
    have hz13 := (hx11).size
    refine NX.seq ?_
    refine WC.cond rfl ?_ ?_
    · intro hc14
      replace hF := bif_t hc14 hF
      refine WC.seq ?_
      refine WC.quiet Tryd.hm (by kernel_rfl) ?_
      refine QL.yld rfl rfl (Yld.qui (yld_move rfl rfl)) ?_
      refine QL.yld rfl rfl (Yld.qui (yld_nilCheck rfl rfl)) ?_
      refine QL.yld rfl rfl (Yld.qui (yld_fieldAddr rfl fo_127_0 rfl)) ?_
      refine QL.yld rfl rfl (Yld.qui (yld_load1 0 rfl ag_34 rfl (Box.cells hb5) rfl rfl)) ?_
      refine QL.yld rfl rfl (Yld.qui (yld_move rfl rfl)) ?_
      refine QL.yld rfl rfl (Yld.qui (yld_nilCheck rfl rfl)) ?_
      refine QL.yld rfl rfl (Yld.qui (yld_fieldAddr rfl fo_127_1 rfl)) ?_
      refine QL.yld rfl rfl (Yld.qui (yld_load1 1 rfl ag_3 rfl (Box.cells hb5) rfl rfl)) ?_
      obtain ⟨x15, hy16, hF⟩ := bsome hF
      refine QL.ye rfl rfl (ye_index (c := (cInt .u8)) rfl Tryd.underlying34 cn_5 rfl rfl ha2 hy16) ?_
      rintro _ ⟨b17, o18, us19, rfl, hib22, hr20, hcl21⟩
      have hib22 : lo3 ≤ b17 ∧ b17 < hi4 := ⟨hib22.1, by have := hib22.2; omega⟩
      obtain rfl := hr20
      refine QL.yld rfl rfl (Yld.qui (yld_load1 0 rfl ag_5 rfl hcl21 rfl rfl)) ?_
      refine QL.yld rfl rfl (Yld.qui (yld_conv rfl Tryd.underlying5 Tryd.underlying2 rfl)) ?_
      refine QL.yld rfl rfl (Yld.qui (yld_assign rfl rfl)) ?_
      refine QL.done fun w23 hx24 => ?_
      have he25 : But (pB b0_) w w23 := But.ext he12 hx24
      have hb5 := Box.ext hb5 hx24
      have ha2 := slRep.old ha2 hx24 (by omega)
      have hz26 := (hx24).size
      refine NX.seq ?_
      refine WC.seq ?_
      refine WC.region ?_
      refine TL.yld rfl rfl (yld_move rfl rfl) ?_
      refine TL.yld rfl rfl (yld_nilCheck rfl rfl) ?_
      refine TL.yld rfl rfl (yld_fieldAddr rfl fo_127_1 rfl) ?_
      refine TL.yld rfl rfl (yld_load1 1 rfl ag_3 rfl (Box.cells hb5) rfl rfl) ?_
      refine TL.yld rfl rfl (yld_add rfl rfl rfl) ?_
      refine TL.yld rfl rfl (yld_nilCheck rfl rfl) ?_
      refine TL.yld rfl rfl (yld_fieldAddr rfl fo_127_1 rfl) ?_
      refine TL.eff rfl rfl (eff_store rfl rfl rfl hb5 cn_3 rfl rfl) ?_
      rintro _ w27 ⟨hu28, hb29⟩
      have he30 : But (pB b0_) w w27 := But.upd he25 hu28 (Or.inl rfl)
      have ha2 := slRep.upd ha2 hu28 (by omega)
      have hz31 := (hu28).size
      have hb5 : Box w27 b0_ [v1, .int .i64 (IntKind.wrap IntKind.i64 (a0_s.at_ + 1)), .int .i64 a0_s.seed_] 127 := hb29
      refine TL.done ?_
      refine NX.seq ?_
      refine WC.seq ?_
      refine WC.seq ?_
      refine WC.region ?_
      refine TL.yld rfl rfl (yld_move rfl rfl) ?_
      refine TL.yld rfl rfl (yld_leq rfl rfl rfl) ?_
      refine TL.done ?_
      refine NX.seq ?_
      refine WC.cond rfl ?_ ?_
      · intro hc32
        replace hF := bif_t hc32 hF
        refine WC.seq ?_
        refine WC.region ?_
        refine TL.yld rfl rfl (yld_move rfl rfl) ?_
        refine TL.yld rfl rfl (yld_move rfl rfl) ?_
        obtain ⟨hn33, hF⟩ := nzero hF
        refine TL.yld rfl rfl (yld_rem rfl rfl rfl hn33) ?_
        refine TL.yld rfl rfl (yld_assign rfl rfl) ?_
        refine TL.done ?_
        refine NX.seq ?_
        refine WC.ret' ?_
        refine NX.then_r ?_
        refine NX.then_r ?_
        obtain rfl := Option.some.inj hF
        exact NX.end (rs := [.tmp 4]) (vs := [.int .i64 (Int.tmod (IntKind.wrap IntKind.i64 x15) a1_n)]) rfl ⟨rfl, trivial⟩ ⟨_, rfl, rfl, hb5, he30⟩
      · intro hc34
        replace hF := bif_f hc34 hF
        refine WC.skip' ?_
        refine NX.seq ?_
        refine WC.seq ?_
        refine WC.region ?_
        refine TL.yld rfl rfl (yld_move rfl rfl) ?_
        refine TL.yld rfl rfl (yld_move rfl rfl) ?_
        refine TL.yld rfl rfl (yld_nilCheck rfl rfl) ?_
        refine TL.yld rfl rfl (yld_fieldAddr rfl fo_127_2 rfl) ?_
        refine TL.yld rfl rfl (yld_load1 2 rfl ag_2 rfl (Box.cells hb5) rfl rfl) ?_
        refine TL.yld rfl rfl (yld_mul rfl rfl rfl) ?_
        refine TL.yld rfl rfl (yld_move rfl rfl) ?_
        refine TL.yld rfl rfl (yld_add rfl rfl rfl) ?_
        refine TL.yld rfl rfl (yld_add rfl rfl rfl) ?_
        refine TL.yld rfl rfl (yld_rem rfl rfl rfl (by decide)) ?_
        refine TL.yld rfl rfl (yld_nilCheck rfl rfl) ?_
        refine TL.yld rfl rfl (yld_fieldAddr rfl fo_127_2 rfl) ?_
        refine TL.eff rfl rfl (eff_store rfl rfl rfl hb5 cn_2 rfl rfl) ?_
        rintro _ w35 ⟨hu36, hb37⟩
        have he38 : But (pB b0_) w w35 := But.upd he30 hu36 (Or.inl rfl)
        have ha2 := slRep.upd ha2 hu36 (by omega)
        have hz39 := (hu36).size
        have hb5 : Box w35 b0_ [v1, .int .i64 (IntKind.wrap IntKind.i64 (a0_s.at_ + 1)), .int .i64 (Int.tmod (IntKind.wrap IntKind.i64 ((IntKind.wrap IntKind.i64 ((IntKind.wrap IntKind.i64 (a0_s.seed_ * 48271)) + (IntKind.wrap IntKind.i64 x15))) + 1)) 2147483647)] 127 := hb37
        refine TL.done ?_
        refine NX.seq ?_
        refine WC.seq ?_
        refine WC.region ?_
        refine TL.yld rfl rfl (yld_move rfl rfl) ?_
        refine TL.yld rfl rfl (yld_nilCheck rfl rfl) ?_
        refine TL.yld rfl rfl (yld_fieldAddr rfl fo_127_2 rfl) ?_
        refine TL.yld rfl rfl (yld_load1 2 rfl ag_2 rfl (Box.cells hb5) rfl rfl) ?_
        refine TL.yld rfl rfl (yld_move rfl rfl) ?_
        obtain ⟨hn40, hF⟩ := nzero hF
        refine TL.yld rfl rfl (yld_rem rfl rfl rfl hn40) ?_
        refine TL.yld rfl rfl (yld_assign rfl rfl) ?_
        refine TL.done ?_
        refine NX.seq ?_
        refine WC.ret' ?_
        refine NX.then_r ?_
        obtain rfl := Option.some.inj hF
        exact NX.end (rs := [.tmp 4]) (vs := [.int .i64 (Int.tmod (Int.tmod (IntKind.wrap IntKind.i64 ((IntKind.wrap IntKind.i64 ((IntKind.wrap IntKind.i64 (a0_s.seed_ * 48271)) + (IntKind.wrap IntKind.i64 x15))) + 1)) 2147483647) a1_n)]) rfl ⟨rfl, trivial⟩ ⟨_, rfl, rfl, hb5, he38⟩
    · intro hc41
      replace hF := bif_f hc41 hF
      refine WC.skip' ?_
      refine NX.seq ?_
      refine WC.seq ?_
      refine WC.region ?_
      refine TL.yld rfl rfl (yld_move rfl rfl) ?_
      refine TL.yld rfl rfl (yld_move rfl rfl) ?_
      refine TL.yld rfl rfl (yld_nilCheck rfl rfl) ?_
      refine TL.yld rfl rfl (yld_fieldAddr rfl fo_127_2 rfl) ?_
      refine TL.yld rfl rfl (yld_load1 2 rfl ag_2 rfl (Box.cells hb5) rfl rfl) ?_
      refine TL.yld rfl rfl (yld_mul rfl rfl rfl) ?_
      refine TL.yld rfl rfl (yld_add rfl rfl rfl) ?_
      refine TL.yld rfl rfl (yld_rem rfl rfl rfl (by decide)) ?_
      refine TL.yld rfl rfl (yld_nilCheck rfl rfl) ?_
      refine TL.yld rfl rfl (yld_fieldAddr rfl fo_127_2 rfl) ?_
      refine TL.eff rfl rfl (eff_store rfl rfl rfl hb5 cn_2 rfl rfl) ?_
      rintro _ w42 ⟨hu43, hb44⟩
      have he45 : But (pB b0_) w w42 := But.upd he12 hu43 (Or.inl rfl)
      have ha2 := slRep.upd ha2 hu43 (by omega)
      have hz46 := (hu43).size
      have hb5 : Box w42 b0_ [v1, .int .i64 a0_s.at_, .int .i64 (Int.tmod (IntKind.wrap IntKind.i64 ((IntKind.wrap IntKind.i64 (a0_s.seed_ * 48271)) + 11)) 2147483647)] 127 := hb44
      refine TL.done ?_
      refine NX.seq ?_
      refine WC.seq ?_
      refine WC.region ?_
      refine TL.yld rfl rfl (yld_move rfl rfl) ?_
      refine TL.yld rfl rfl (yld_nilCheck rfl rfl) ?_
      refine TL.yld rfl rfl (yld_fieldAddr rfl fo_127_2 rfl) ?_
      refine TL.yld rfl rfl (yld_load1 2 rfl ag_2 rfl (Box.cells hb5) rfl rfl) ?_
      refine TL.yld rfl rfl (yld_quo rfl rfl rfl (by decide)) ?_
      refine TL.yld rfl rfl (yld_move rfl rfl) ?_
      obtain ⟨hn47, hF⟩ := nzero hF
      refine TL.yld rfl rfl (yld_rem rfl rfl rfl hn47) ?_
      refine TL.yld rfl rfl (yld_assign rfl rfl) ?_
      refine TL.done ?_
      refine NX.seq ?_
      refine WC.ret' ?_
      obtain rfl := Option.some.inj hF
      exact NX.end (rs := [.tmp 4]) (vs := [.int .i64 (Int.tmod (IntKind.wrap IntKind.i64 (Int.tdiv (Int.tmod (IntKind.wrap IntKind.i64 ((IntKind.wrap IntKind.i64 (a0_s.seed_ * 48271)) + 11)) 2147483647) 7)) a1_n)]) rfl ⟨rfl, trivial⟩ ⟨_, rfl, rfl, hb5, he45⟩

-- loop.example/g00861/spec.l01Number
def F_spec_l01Number : Nat → Int → Option ByteArray
  | 0 => fun _ => none
  | n + 1 => fun a0_n => (bif decide (a0_n < 0) then (Option.bind (F_spec_l01Number n (IntKind.wrap IntKind.i64 (0 - a0_n))) fun r2 => (Option.bind (catS ((ByteArray.mk #[45])) r2) fun t8 => (some t8))) else (bif decide (a0_n < 10) then (some ((strB ([IntKind.wrap IntKind.u8 (IntKind.wrap IntKind.i64 (48 + a0_n))])))) else (Option.bind (F_spec_l01Number n (IntKind.wrap IntKind.i64 (Int.tdiv a0_n 10))) fun r26 => (Option.bind (catS r26 ((strB ([IntKind.wrap IntKind.u8 (IntKind.wrap IntKind.i64 (48 + (Int.tmod a0_n 10)))])))) fun t45 => (some t45)))))
theorem F_spec_l01Number_z (a0_n : Int) : F_spec_l01Number 0 a0_n = none := rfl
theorem F_spec_l01Number_s (n : Nat) (a0_n : Int) : F_spec_l01Number (n + 1) a0_n = (bif decide (a0_n < 0) then (Option.bind (F_spec_l01Number n (IntKind.wrap IntKind.i64 (0 - a0_n))) fun r2 => (Option.bind (catS ((ByteArray.mk #[45])) r2) fun t8 => (some t8))) else (bif decide (a0_n < 10) then (some ((strB ([IntKind.wrap IntKind.u8 (IntKind.wrap IntKind.i64 (48 + a0_n))])))) else (Option.bind (F_spec_l01Number n (IntKind.wrap IntKind.i64 (Int.tdiv a0_n 10))) fun r26 => (Option.bind (catS r26 ((strB ([IntKind.wrap IntKind.u8 (IntKind.wrap IntKind.i64 (48 + (Int.tmod a0_n 10)))])))) fun t45 => (some t45))))) := rfl
set_option maxHeartbeats 40000000 in
theorem W_spec_l01Number {n : Nat} {a0_n : Int} {r : ByteArray} {w : World} (hF : F_spec_l01Number n a0_n = some r) :
    Calls Tryd.prog 133 [.int .i64 a0_n].toArray w (Ret fun u w2 => u = .string r ∧ Ext w w2) := by
  cases n with
  | zero => rw [F_spec_l01Number_z] at hF; cases hF
  | succ n =>
    refine calls_of Tryd.func133 rfl Tryd.ntmps133 ?_
    have he0 : Ext w w := Ext.refl w
    rw [F_spec_l01Number_s] at hF
    refine WC.seq ?_
    refine WC.region ?_
    refine TL.yld rfl rfl (yld_assign rfl rfl) ?_
    refine TL.done ?_
    refine NX.seq ?_
    refine WC.seq ?_
    refine WC.seq ?_
    refine WC.region ?_
    refine TL.yld rfl rfl (yld_move rfl rfl) ?_
    refine TL.yld rfl rfl (yld_lss rfl rfl rfl) ?_
    refine TL.done ?_
    refine NX.seq ?_
    refine WC.cond rfl ?_ ?_
    · intro hc1
      replace hF := bif_t hc1 hF
      refine WC.seq ?_
      refine WC.region ?_
      refine TL.yld rfl rfl (yld_move rfl rfl) ?_
      refine TL.yld rfl rfl (yld_neg rfl rfl) ?_
      obtain ⟨r2, hr3, hF⟩ := bsome hF
      refine TL.eff rfl rfl (eff_call rfl gf_133 rfl (W_spec_l01Number hr3)) ?_
      rintro _ w4 ⟨rfl, hx5⟩
      have he6 : Ext w w4 := Ext.trans he0 hx5
      have hz7 := (hx5).size
      obtain ⟨t8, ht9, hF⟩ := bsome hF
      refine TL.yld rfl rfl (yld_cat rfl rfl rfl ht9) ?_
      refine TL.yld rfl rfl (yld_assign rfl rfl) ?_
      refine TL.done ?_
      refine NX.seq ?_
      refine WC.ret' ?_
      refine NX.then_r ?_
      obtain rfl := Option.some.inj hF
      exact NX.end (rs := [.tmp 2]) (vs := [.string t8]) rfl ⟨rfl, trivial⟩ ⟨_, rfl, rfl, he6⟩
    · intro hc10
      replace hF := bif_f hc10 hF
      refine WC.skip' ?_
      refine NX.seq ?_
      refine WC.seq ?_
      refine WC.seq ?_
      refine WC.region ?_
      refine TL.yld rfl rfl (yld_move rfl rfl) ?_
      refine TL.yld rfl rfl (yld_lss rfl rfl rfl) ?_
      refine TL.done ?_
      refine NX.seq ?_
      refine WC.cond rfl ?_ ?_
      · intro hc11
        replace hF := bif_t hc11 hF
        refine WC.seq ?_
        refine WC.region ?_
        refine TL.yld rfl rfl (yld_move rfl rfl) ?_
        refine TL.yld rfl rfl (yld_add rfl rfl rfl) ?_
        refine TL.yld rfl rfl (yld_conv rfl Tryd.underlying2 Tryd.underlying5 rfl) ?_
        refine TL.eff rfl rfl (eff_buildSlice (c := (cInt .u8)) (xs := [IntKind.wrap IntKind.u8 (IntKind.wrap IntKind.i64 (48 + a0_n))]) (S := (Iv 0 0)) (uss := [(0, [.int .u8 (IntKind.wrap IntKind.u8 (IntKind.wrap IntKind.i64 (48 + a0_n)))])]) (out := [.int .u8 (IntKind.wrap IntKind.u8 (IntKind.wrap IntKind.i64 (48 + a0_n)))]) rfl Tryd.underlying34 in_5 rfl rfl (fillL_all [[.int .u8 (IntKind.wrap IntKind.u8 (IntKind.wrap IntKind.i64 (48 + a0_n)))]] rfl rfl rfl) rfl rfl rfl rfl (one_rep (uss := [[.int .u8 (IntKind.wrap IntKind.u8 (IntKind.wrap IntKind.i64 (48 + a0_n)))]]) (show reps _ _ _ _ _ from ⟨rfl, trivial⟩) rfl) (fun k h => by have := h.2; omega) rfl) ?_
        rintro v12 w13 ⟨g14, hv15, hg16, hz17, hx18, hs19⟩
        have he20 : Ext w w13 := Ext.trans he0 hx18
        have hz21 := (hx18).size
        have hlo22 : w.heap.size ≤ g14 := by rw [hg16]; exact (he0).size
        have hbd23 := bd_of hv15
        clear hv15
        refine TL.yld rfl rfl (yld_bytes rfl Tryd.underlying34 Tryd.underlying5 Tryd.underlying9 rfl (ownR.slf hs19 (Nat.le_refl _) (Nat.le_refl _))) ?_
        refine TL.yld rfl rfl (yld_assign rfl rfl) ?_
        refine TL.done ?_
        refine NX.seq ?_
        refine WC.ret' ?_
        refine NX.then_r ?_
        obtain rfl := Option.some.inj hF
        exact NX.end (rs := [.tmp 2]) (vs := [.string ((strB ([IntKind.wrap IntKind.u8 (IntKind.wrap IntKind.i64 (48 + a0_n))])))]) rfl ⟨rfl, trivial⟩ ⟨_, rfl, rfl, he20⟩
      · intro hc25
        replace hF := bif_f hc25 hF
        refine WC.skip' ?_
        refine NX.seq ?_
        refine WC.seq ?_
        obtain ⟨r26, hr27, hF⟩ := bsome hF
        obtain ⟨t45, ht46, hF⟩ := bsome hF
        refine WC.join (fun a wl => Kn 26 [(2, .string t45)] a ∧ Ext w wl ∧ w.heap.size ≤ wl.heap.size) ?_ ?_
        ·
          refine WC.held 9 Tryd.hm fun w50 hx51 => ?_
          have he52 : Ext w w50 := Ext.trans he0 hx51
          have hz53 := (hx51).size
          refine HL.yld 0 (by kernel_rfl) rfl (by kernel_rfl) rfl rfl (yld_move rfl rfl) ?_
          refine HL.yld 1 (by kernel_rfl) rfl (by kernel_rfl) rfl rfl (yld_quo rfl rfl rfl (by decide)) ?_
          refine HL.yld 3 (by kernel_rfl) rfl (by kernel_rfl) rfl rfl (yld_move rfl rfl) ?_
          refine HL.yld 4 (by kernel_rfl) rfl (by kernel_rfl) rfl rfl (yld_rem rfl rfl rfl (by decide)) ?_
          refine HL.yld 5 (by kernel_rfl) rfl (by kernel_rfl) rfl rfl (yld_add rfl rfl rfl) ?_
          refine HL.yld 6 (by kernel_rfl) rfl (by kernel_rfl) rfl rfl (yld_conv rfl Tryd.underlying2 Tryd.underlying5 rfl) ?_
          refine HL.many (js := [2, 7]) (by kernel_rfl) rfl (all_two ?_ ?_)
          ·
            refine HB.eff 2 rfl rfl (by kernel_rfl) rfl rfl (eff_call rfl gf_133 rfl (W_spec_l01Number hr27)) ?_
            rintro _ w54 ⟨rfl, hx55⟩
            have hbs56 : Ext w50 w54 := Ext.trans (Ext.refl w50) hx55
            have he57 : Ext w w54 := Ext.trans he52 hx55
            have hz58 := (hx55).size
            refine ⟨hbs56, ?_⟩
            refine HL.eff 7 rfl rfl (by kernel_rfl) rfl rfl (eff_buildSlice (c := (cInt .u8)) (xs := [IntKind.wrap IntKind.u8 (IntKind.wrap IntKind.i64 (48 + (Int.tmod a0_n 10)))]) (S := (Iv 0 0)) (uss := [(0, [.int .u8 (IntKind.wrap IntKind.u8 (IntKind.wrap IntKind.i64 (48 + (Int.tmod a0_n 10))))])]) (out := [.int .u8 (IntKind.wrap IntKind.u8 (IntKind.wrap IntKind.i64 (48 + (Int.tmod a0_n 10))))]) rfl Tryd.underlying34 in_5 rfl rfl (fillL_all [[.int .u8 (IntKind.wrap IntKind.u8 (IntKind.wrap IntKind.i64 (48 + (Int.tmod a0_n 10))))]] rfl rfl rfl) rfl rfl rfl rfl (one_rep (uss := [[.int .u8 (IntKind.wrap IntKind.u8 (IntKind.wrap IntKind.i64 (48 + (Int.tmod a0_n 10))))]]) (show reps _ _ _ _ _ from ⟨rfl, trivial⟩) rfl) (fun k h => by have := h.2; omega) rfl) ?_
            rintro v59 w60 ⟨g61, hv62, hg63, hz64, hx65, hs66⟩
            have hbs67 : Ext w50 w60 := Ext.trans hbs56 hx65
            have he68 : Ext w w60 := Ext.trans he57 hx65
            have hz69 := (hx65).size
            have hlo70 : w.heap.size ≤ g61 := by rw [hg63]; exact (he57).size
            have hbd71 := bd_of hv62
            clear hv62
            refine ⟨hbs67, ?_⟩
            refine HL.shrink ?_
            refine HL.yld 8 (by kernel_rfl) rfl (by kernel_rfl) rfl rfl (yld_bytes rfl Tryd.underlying34 Tryd.underlying5 Tryd.underlying9 rfl (ownR.slf hs66 (Nat.le_refl _) (Nat.le_refl _))) ?_
            refine HL.tail rfl (by kernel_rfl) rfl ?_
            refine TL.yld rfl rfl (yld_cat rfl rfl rfl ht46) ?_
            refine TL.yld rfl rfl (yld_assign rfl rfl) ?_
            refine TL.noPan (l := []) ?_
            exact fun a hK => ⟨rfl, hK.weaken ⟨rfl, trivial⟩, he68, (by omega)⟩
          ·
            refine HB.eff 7 rfl rfl (by kernel_rfl) rfl rfl (eff_buildSlice (c := (cInt .u8)) (xs := [IntKind.wrap IntKind.u8 (IntKind.wrap IntKind.i64 (48 + (Int.tmod a0_n 10)))]) (S := (Iv 0 0)) (uss := [(0, [.int .u8 (IntKind.wrap IntKind.u8 (IntKind.wrap IntKind.i64 (48 + (Int.tmod a0_n 10))))])]) (out := [.int .u8 (IntKind.wrap IntKind.u8 (IntKind.wrap IntKind.i64 (48 + (Int.tmod a0_n 10))))]) rfl Tryd.underlying34 in_5 rfl rfl (fillL_all [[.int .u8 (IntKind.wrap IntKind.u8 (IntKind.wrap IntKind.i64 (48 + (Int.tmod a0_n 10))))]] rfl rfl rfl) rfl rfl rfl rfl (one_rep (uss := [[.int .u8 (IntKind.wrap IntKind.u8 (IntKind.wrap IntKind.i64 (48 + (Int.tmod a0_n 10))))]]) (show reps _ _ _ _ _ from ⟨rfl, trivial⟩) rfl) (fun k h => by have := h.2; omega) rfl) ?_
            rintro v73 w74 ⟨g75, hv76, hg77, hz78, hx79, hs80⟩
            have hbs81 : Ext w50 w74 := Ext.trans (Ext.refl w50) hx79
            have he82 : Ext w w74 := Ext.trans he52 hx79
            have hz83 := (hx79).size
            have hlo84 : w.heap.size ≤ g75 := by rw [hg77]; exact (he52).size
            have hbd85 := bd_of hv76
            clear hv76
            refine ⟨hbs81, ?_⟩
            refine HL.shrink ?_
            refine HL.yld 8 (by kernel_rfl) rfl (by kernel_rfl) rfl rfl (yld_bytes rfl Tryd.underlying34 Tryd.underlying5 Tryd.underlying9 rfl (ownR.slf hs80 (Nat.le_refl _) (Nat.le_refl _))) ?_
            refine HL.eff 2 rfl rfl (by kernel_rfl) rfl rfl (eff_call rfl gf_133 rfl (W_spec_l01Number hr27)) ?_
            rintro _ w87 ⟨rfl, hx88⟩
            have hbs89 : Ext w74 w87 := Ext.trans (Ext.refl w74) hx88
            have he90 : Ext w w87 := Ext.trans he82 hx88
            have hs80 := ownR.ext hs80 hx88
            have hz91 := (hx88).size
            refine ⟨hbs89, ?_⟩
            refine HL.tail rfl (by kernel_rfl) rfl ?_
            refine TL.yld rfl rfl (yld_cat rfl rfl rfl ht46) ?_
            refine TL.yld rfl rfl (yld_assign rfl rfl) ?_
            refine TL.noPan (l := []) ?_
            exact fun a hK => ⟨rfl, hK.weaken ⟨rfl, trivial⟩, he90, (by omega)⟩
        ·
          rintro a w47 ⟨hK, he48, hz49⟩
          revert hK; revert a; refine (?_ : NX _ _ _ _ _)
          refine NX.seq ?_
          refine WC.ret' ?_
          obtain rfl := Option.some.inj hF
          exact NX.end (rs := [.tmp 2]) (vs := [.string t45]) rfl ⟨rfl, trivial⟩ ⟨_, rfl, rfl, he48⟩
termination_by n

-- loop.example/g00861/spec.l14Draw
def F_spec_l14Draw_L2 (n : Nat) (k3 : (List S_Clock) → Option ((List S_Clock) × S_l01Source)) : Nat → (List S_Clock) → Option ((List S_Clock) × S_l01Source)
  | 0 => fun _ => none
  | m + 1 => fun l181 => (bif decide ((l181.length : Int) < 7) then (Option.bind (getI l181 0) fun x189 => (Option.bind (F_spec_l01Number n ((l181.length : Int))) fun r208 => (Option.bind (catS ((ByteArray.mk #[120])) r208) fun t214 => (Option.bind (appN l181 ([(S_Clock.mk t214 x189.Place x189.Period x189.RiseAt x189.FallAt x189.Source x189.Divide x189.Invert x189.EarlyLatency x189.LateLatency x189.Uncertainty)]) 96) fun z234 => (F_spec_l14Draw_L2 n k3 m z234))))) else (k3 l181))
theorem F_spec_l14Draw_L2_z (n : Nat) (k3 : (List S_Clock) → Option ((List S_Clock) × S_l01Source)) (l181 : List S_Clock) : F_spec_l14Draw_L2 n k3 0 l181 = none := rfl
theorem F_spec_l14Draw_L2_s (m : Nat) (n : Nat) (k3 : (List S_Clock) → Option ((List S_Clock) × S_l01Source)) (l181 : List S_Clock) : F_spec_l14Draw_L2 n k3 (m + 1) l181 = (bif decide ((l181.length : Int) < 7) then (Option.bind (getI l181 0) fun x189 => (Option.bind (F_spec_l01Number n ((l181.length : Int))) fun r208 => (Option.bind (catS ((ByteArray.mk #[120])) r208) fun t214 => (Option.bind (appN l181 ([(S_Clock.mk t214 x189.Place x189.Period x189.RiseAt x189.FallAt x189.Source x189.Divide x189.Invert x189.EarlyLatency x189.LateLatency x189.Uncertainty)]) 96) fun z234 => (F_spec_l14Draw_L2 n k3 m z234))))) else (k3 l181)) := rfl

def F_spec_l14Draw_L1 (n : Nat) (a0_s : S_l01Source) (k0 : (List S_Clock) → Int → Int → Int → Option ((List S_Clock) × S_l01Source)) : Nat → (List S_Clock) → Int → Int → Int → Option ((List S_Clock) × S_l01Source)
  | 0 => fun _ _ _ _ => none
  | m + 1 => fun l31 i35 i37 i38 => (bif decide (i35 > 0) then (Option.bind (F_spec_l01Next n ((S_l01Source.mk a0_s.code_ i37 i38)) 30) fun r42 => (Option.bind (F_spec_l01Number n ((l31.length : Int))) fun r50 => (Option.bind (catS ((ByteArray.mk #[99])) r50) fun t56 => (Option.bind (F_spec_l01Next n ((S_l01Source.mk a0_s.code_ r42.2.at_ r42.2.seed_)) 20) fun r58 => (Option.bind (F_spec_l01Next n ((S_l01Source.mk a0_s.code_ r58.2.at_ r58.2.seed_)) 20) fun r66 => (Option.bind (F_spec_l01Next n ((S_l01Source.mk a0_s.code_ r66.2.at_ r66.2.seed_)) 8) fun r74 => (Option.bind (bif (((l31.length : Int)) == 0) then (some (true, r74.2.at_, r74.2.seed_)) else (Option.bind (F_spec_l01Next n ((S_l01Source.mk a0_s.code_ r74.2.at_ r74.2.seed_)) 3) fun r94 => (some ((r94.1 == 0), r94.2.at_, r94.2.seed_)))) fun c94 => (bif c94.1 then (Option.bind (F_spec_l01Next n ((S_l01Source.mk a0_s.code_ c94.2.1 c94.2.2)) 7) fun r125 => (Option.bind (getI ([10, 12, 20, 30, 100, 7, 2]) r125.1) fun x134 => (Option.bind (F_spec_l01Next n ((S_l01Source.mk a0_s.code_ r125.2.at_ r125.2.seed_)) x134) fun r146 => (Option.bind (F_spec_l01Next n ((S_l01Source.mk a0_s.code_ r146.2.at_ r146.2.seed_)) (IntKind.wrap IntKind.i64 (x134 - 1))) fun r160 => (bif (x134 == 0) then none else (Option.bind (appN l31 ([(S_Clock.mk t56 r58.1 x134 r146.1 (Int.tmod (IntKind.wrap IntKind.i64 ((IntKind.wrap IntKind.i64 (r146.1 + 1)) + r160.1)) x134) (-1) 1 false r42.1 (IntKind.wrap IntKind.i64 (r42.1 + r66.1)) r74.1)]) 96) fun z205 => (F_spec_l14Draw_L1 n a0_s k0 m z205 (IntKind.wrap IntKind.i64 (i35 - 1)) r160.2.at_ r160.2.seed_))))))) else (Option.bind (F_spec_l01Next n ((S_l01Source.mk a0_s.code_ c94.2.1 c94.2.2)) ((l31.length : Int))) fun r223 => (Option.bind (F_spec_l01Next n ((S_l01Source.mk a0_s.code_ r223.2.at_ r223.2.seed_)) 4) fun r236 => (Option.bind (F_spec_l01Next n ((S_l01Source.mk a0_s.code_ r236.2.at_ r236.2.seed_)) 3) fun r249 => (Option.bind (appN l31 ([(S_Clock.mk t56 r58.1 0 0 0 r223.1 (IntKind.wrap IntKind.i64 (1 + r236.1)) ((r249.1 == 0)) r42.1 (IntKind.wrap IntKind.i64 (r42.1 + r66.1)) r74.1)]) 96) fun z275 => (F_spec_l14Draw_L1 n a0_s k0 m z275 (IntKind.wrap IntKind.i64 (i35 - 1)) r249.2.at_ r249.2.seed_))))))))))))) else (k0 l31 i35 i37 i38))
theorem F_spec_l14Draw_L1_z (n : Nat) (a0_s : S_l01Source) (k0 : (List S_Clock) → Int → Int → Int → Option ((List S_Clock) × S_l01Source)) (l31 : List S_Clock) (i35 : Int) (i37 : Int) (i38 : Int) : F_spec_l14Draw_L1 n a0_s k0 0 l31 i35 i37 i38 = none := rfl
theorem F_spec_l14Draw_L1_s (m : Nat) (n : Nat) (a0_s : S_l01Source) (k0 : (List S_Clock) → Int → Int → Int → Option ((List S_Clock) × S_l01Source)) (l31 : List S_Clock) (i35 : Int) (i37 : Int) (i38 : Int) : F_spec_l14Draw_L1 n a0_s k0 (m + 1) l31 i35 i37 i38 = (bif decide (i35 > 0) then (Option.bind (F_spec_l01Next n ((S_l01Source.mk a0_s.code_ i37 i38)) 30) fun r42 => (Option.bind (F_spec_l01Number n ((l31.length : Int))) fun r50 => (Option.bind (catS ((ByteArray.mk #[99])) r50) fun t56 => (Option.bind (F_spec_l01Next n ((S_l01Source.mk a0_s.code_ r42.2.at_ r42.2.seed_)) 20) fun r58 => (Option.bind (F_spec_l01Next n ((S_l01Source.mk a0_s.code_ r58.2.at_ r58.2.seed_)) 20) fun r66 => (Option.bind (F_spec_l01Next n ((S_l01Source.mk a0_s.code_ r66.2.at_ r66.2.seed_)) 8) fun r74 => (Option.bind (bif (((l31.length : Int)) == 0) then (some (true, r74.2.at_, r74.2.seed_)) else (Option.bind (F_spec_l01Next n ((S_l01Source.mk a0_s.code_ r74.2.at_ r74.2.seed_)) 3) fun r94 => (some ((r94.1 == 0), r94.2.at_, r94.2.seed_)))) fun c94 => (bif c94.1 then (Option.bind (F_spec_l01Next n ((S_l01Source.mk a0_s.code_ c94.2.1 c94.2.2)) 7) fun r125 => (Option.bind (getI ([10, 12, 20, 30, 100, 7, 2]) r125.1) fun x134 => (Option.bind (F_spec_l01Next n ((S_l01Source.mk a0_s.code_ r125.2.at_ r125.2.seed_)) x134) fun r146 => (Option.bind (F_spec_l01Next n ((S_l01Source.mk a0_s.code_ r146.2.at_ r146.2.seed_)) (IntKind.wrap IntKind.i64 (x134 - 1))) fun r160 => (bif (x134 == 0) then none else (Option.bind (appN l31 ([(S_Clock.mk t56 r58.1 x134 r146.1 (Int.tmod (IntKind.wrap IntKind.i64 ((IntKind.wrap IntKind.i64 (r146.1 + 1)) + r160.1)) x134) (-1) 1 false r42.1 (IntKind.wrap IntKind.i64 (r42.1 + r66.1)) r74.1)]) 96) fun z205 => (F_spec_l14Draw_L1 n a0_s k0 m z205 (IntKind.wrap IntKind.i64 (i35 - 1)) r160.2.at_ r160.2.seed_))))))) else (Option.bind (F_spec_l01Next n ((S_l01Source.mk a0_s.code_ c94.2.1 c94.2.2)) ((l31.length : Int))) fun r223 => (Option.bind (F_spec_l01Next n ((S_l01Source.mk a0_s.code_ r223.2.at_ r223.2.seed_)) 4) fun r236 => (Option.bind (F_spec_l01Next n ((S_l01Source.mk a0_s.code_ r236.2.at_ r236.2.seed_)) 3) fun r249 => (Option.bind (appN l31 ([(S_Clock.mk t56 r58.1 0 0 0 r223.1 (IntKind.wrap IntKind.i64 (1 + r236.1)) ((r249.1 == 0)) r42.1 (IntKind.wrap IntKind.i64 (r42.1 + r66.1)) r74.1)]) 96) fun z275 => (F_spec_l14Draw_L1 n a0_s k0 m z275 (IntKind.wrap IntKind.i64 (i35 - 1)) r249.2.at_ r249.2.seed_))))))))))))) else (k0 l31 i35 i37 i38)) := rfl

def F_spec_l14Draw (n : Nat) (a0_s : S_l01Source) : Option ((List S_Clock) × S_l01Source) := (Option.bind (F_spec_l01Next n a0_s 5) fun r21 => (F_spec_l14Draw_L1 n a0_s (fun l31 i35 i37 i38 => (Option.bind (F_spec_l01Next n ((S_l01Source.mk a0_s.code_ i37 i38)) ((l31.length : Int))) fun r41 => (Option.bind (F_spec_l01Next n ((S_l01Source.mk a0_s.code_ r41.2.at_ r41.2.seed_)) 30) fun r49 => (bif (r49.1 == 0) then (Option.bind (F_spec_l01Next n ((S_l01Source.mk a0_s.code_ r49.2.at_ r49.2.seed_)) 2) fun r58 => (Option.bind (getI l31 r41.1) fun x66 => (some ((l31.set (r41.1).toNat ((S_Clock.mk x66.Name x66.Place x66.Period x66.RiseAt x66.FallAt x66.Source (IntKind.wrap IntKind.i64 (9 * r58.1)) x66.Invert x66.EarlyLatency x66.LateLatency x66.Uncertainty))), (S_l01Source.mk a0_s.code_ r58.2.at_ r58.2.seed_))))) else (bif (r49.1 == 1) then (Option.bind (getI l31 r41.1) fun x80 => (Option.bind (getI l31 r41.1) fun x87 => (some ((l31.set (r41.1).toNat ((S_Clock.mk x87.Name x87.Place x87.Period x87.RiseAt x80.RiseAt x87.Source x87.Divide x87.Invert x87.EarlyLatency x87.LateLatency x87.Uncertainty))), (S_l01Source.mk a0_s.code_ r49.2.at_ r49.2.seed_))))) else (bif (r49.1 == 2) then (Option.bind (getI l31 0) fun x101 => (Option.bind (getI l31 r41.1) fun x108 => (some ((l31.set (r41.1).toNat ((S_Clock.mk x101.Name x108.Place x108.Period x108.RiseAt x108.FallAt x108.Source x108.Divide x108.Invert x108.EarlyLatency x108.LateLatency x108.Uncertainty))), (S_l01Source.mk a0_s.code_ r49.2.at_ r49.2.seed_))))) else (bif (r49.1 == 3) then (Option.bind (getI l31 r41.1) fun x122 => (some ((l31.set (r41.1).toNat ((S_Clock.mk x122.Name x122.Place x122.Period x122.RiseAt x122.FallAt r41.1 x122.Divide x122.Invert x122.EarlyLatency x122.LateLatency x122.Uncertainty))), (S_l01Source.mk a0_s.code_ r49.2.at_ r49.2.seed_)))) else (bif (r49.1 == 4) then (Option.bind (getI l31 r41.1) fun x136 => (Option.bind (getI l31 r41.1) fun x143 => (some ((l31.set (r41.1).toNat ((S_Clock.mk x143.Name x143.Place x143.Period x143.RiseAt x143.FallAt x143.Source x143.Divide x143.Invert x143.EarlyLatency (IntKind.wrap IntKind.i64 (x136.EarlyLatency - 1)) x143.Uncertainty))), (S_l01Source.mk a0_s.code_ r49.2.at_ r49.2.seed_))))) else (bif (r49.1 == 5) then (Option.bind (F_spec_l01Next n ((S_l01Source.mk a0_s.code_ r49.2.at_ r49.2.seed_)) 2) fun r157 => (Option.bind (getI l31 0) fun x165 => (some ((l31.set (0 : Int).toNat ((S_Clock.mk x165.Name x165.Place (IntKind.wrap IntKind.i64 (100000 + r157.1)) x165.RiseAt x165.FallAt x165.Source x165.Divide x165.Invert x165.EarlyLatency x165.LateLatency x165.Uncertainty))), (S_l01Source.mk a0_s.code_ r157.2.at_ r157.2.seed_))))) else (bif (r49.1 == 6) then (F_spec_l14Draw_L2 n (fun l181 => (some (l181, (S_l01Source.mk a0_s.code_ r49.2.at_ r49.2.seed_)))) n l31) else (some (l31, (S_l01Source.mk a0_s.code_ r49.2.at_ r49.2.seed_))))))))))))) n (([] : List S_Clock)) (IntKind.wrap IntKind.i64 (1 + r21.1)) r21.2.at_ r21.2.seed_))
set_option maxHeartbeats 40000000 in
theorem W_spec_l14Draw {n : Nat} {a0_s : S_l01Source} {r : (List S_Clock) × S_l01Source} {w : World} {v1 : Value} {lo3 hi4 : Nat} {b0_ : Nat} (hF : F_spec_l14Draw n a0_s = some r) (hb5 : Box w b0_ [v1, .int .i64 a0_s.at_, .int .i64 a0_s.seed_] 127) (ha2 : slRep (cInt .u8) w (Iv lo3 hi4) a0_s.code_ v1) (hh6 : hi4 ≤ w.heap.size) (hh7 : b0_ < lo3 ∨ hi4 ≤ b0_) :
    Calls Tryd.prog 98 [.pointer (some ⟨b0_, 0, none⟩)].toArray w (Ret fun u w2 => ∃ v0_0, u = v0_0 ∧ ownR C_Clock w2 w.heap.size (Iv 0 0) 75 r.1 v0_0 ∧ Box w2 b0_ [v1, .int .i64 r.2.at_, .int .i64 r.2.seed_] 127 ∧ But (pB b0_) w w2) := by
  refine calls_of Tryd.func98 rfl Tryd.ntmps98 ?_
  have he0 : But (pB b0_) w w := But.refl _ w
  have := Box.lt hb5
  unfold F_spec_l14Draw at hF
  refine WC.seq ?_
  refine WC.region ?_
  refine TL.yld rfl rfl (yld_assign rfl rfl) ?_
  refine TL.done ?_
  refine NX.seq ?_
  refine WC.seq ?_
  refine WC.region ?_
  refine TL.eff rfl rfl (eff_buildSlice (c := C_Clock) (xs := ([] : List S_Clock)) (S := (Iv 0 0)) (uss := []) (out := []) rfl Tryd.underlying26 in_75 rfl rfl (fillL_all [] rfl rfl rfl) rfl rfl rfl rfl (one_rep (uss := []) (show reps _ _ _ _ _ from trivial) rfl) (fun k h => by have := h.2; omega) rfl) ?_
  rintro v8 w9 ⟨g10, hv11, hg12, hz13, hx14, hs15⟩
  have he16 : But (pB b0_) w w9 := But.ext he0 hx14
  have hb5 := Box.ext hb5 hx14
  have ha2 := slRep.old ha2 hx14 (by omega)
  have hz17 := (hx14).size
  have hlo18 : w.heap.size ≤ g10 := by rw [hg12]; exact (he0).size
  have hbd19 := bd_of hv11
  clear hv11
  refine TL.yld rfl rfl (yld_assign rfl rfl) ?_
  refine TL.done ?_
  refine NX.seq ?_
  refine WC.seq ?_
  refine WC.seq ?_
  refine WC.region ?_
  refine TL.yld rfl rfl (yld_move rfl rfl) ?_
  obtain ⟨r21, hr22, hF⟩ := bsome hF
  refine TL.eff rfl rfl (eff_call rfl gf_71 rfl (W_spec_l01Next hr22 hb5 ha2 (by omega) (by omega))) ?_
  rintro _ w23 ⟨rfl, hb25, hx24⟩
  have he26 : But (pB b0_) w w23 := But.but he16 hx24 (all_pB (Or.inl rfl))
  have ha2 := slRep.but ha2 hx24 (all_pB (by omega)) (by omega)
  have hp27 : ∀ g, v8.ownBlock = some g → g ≠ b0_ := (fun g hg => by have := hbd19 g hg; omega)
  have hs15 := ownR.butF hs15 hx24 (all_pB (fun g hg e => hp27 g hg e.symm))
  have hz28 := (hx24).size
  refine TL.yld rfl rfl (yld_add rfl rfl rfl) ?_
  refine TL.yld rfl rfl (yld_assign rfl rfl) ?_
  refine TL.done ?_
  refine NX.seq ?_
  refine WC.block ?_
  refine WC.loop (fun m41 a wl => ∃ (l31 : List S_Clock) (v32 : Value) (i35 : Int) (i37 : Int) (i38 : Int), Kn 163 [(0, .pointer (some ⟨b0_, 0, none⟩)), (3, v32), (4, .int .i64 i35)] a ∧ But (pB b0_) w wl ∧ w23.heap.size ≤ wl.heap.size ∧ Box wl b0_ [v1, .int .i64 i37, .int .i64 i38] 127 ∧ slRep (cInt .u8) wl (Iv lo3 hi4) a0_s.code_ v1 ∧ ownR C_Clock wl (g10) (Iv 0 0) 75 l31 v32 ∧ (∀ q, v32.ownBlock = some q → g10 ≤ q ∧ q < wl.heap.size) ∧ (∀ g, v32.ownBlock = some g → g ≠ b0_) ∧ F_spec_l14Draw_L1 n a0_s (fun l31 i35 i37 i38 => (Option.bind (F_spec_l01Next n ((S_l01Source.mk a0_s.code_ i37 i38)) ((l31.length : Int))) fun r41 => (Option.bind (F_spec_l01Next n ((S_l01Source.mk a0_s.code_ r41.2.at_ r41.2.seed_)) 30) fun r49 => (bif (r49.1 == 0) then (Option.bind (F_spec_l01Next n ((S_l01Source.mk a0_s.code_ r49.2.at_ r49.2.seed_)) 2) fun r58 => (Option.bind (getI l31 r41.1) fun x66 => (some ((l31.set (r41.1).toNat ((S_Clock.mk x66.Name x66.Place x66.Period x66.RiseAt x66.FallAt x66.Source (IntKind.wrap IntKind.i64 (9 * r58.1)) x66.Invert x66.EarlyLatency x66.LateLatency x66.Uncertainty))), (S_l01Source.mk a0_s.code_ r58.2.at_ r58.2.seed_))))) else (bif (r49.1 == 1) then (Option.bind (getI l31 r41.1) fun x80 => (Option.bind (getI l31 r41.1) fun x87 => (some ((l31.set (r41.1).toNat ((S_Clock.mk x87.Name x87.Place x87.Period x87.RiseAt x80.RiseAt x87.Source x87.Divide x87.Invert x87.EarlyLatency x87.LateLatency x87.Uncertainty))), (S_l01Source.mk a0_s.code_ r49.2.at_ r49.2.seed_))))) else (bif (r49.1 == 2) then (Option.bind (getI l31 0) fun x101 => (Option.bind (getI l31 r41.1) fun x108 => (some ((l31.set (r41.1).toNat ((S_Clock.mk x101.Name x108.Place x108.Period x108.RiseAt x108.FallAt x108.Source x108.Divide x108.Invert x108.EarlyLatency x108.LateLatency x108.Uncertainty))), (S_l01Source.mk a0_s.code_ r49.2.at_ r49.2.seed_))))) else (bif (r49.1 == 3) then (Option.bind (getI l31 r41.1) fun x122 => (some ((l31.set (r41.1).toNat ((S_Clock.mk x122.Name x122.Place x122.Period x122.RiseAt x122.FallAt r41.1 x122.Divide x122.Invert x122.EarlyLatency x122.LateLatency x122.Uncertainty))), (S_l01Source.mk a0_s.code_ r49.2.at_ r49.2.seed_)))) else (bif (r49.1 == 4) then (Option.bind (getI l31 r41.1) fun x136 => (Option.bind (getI l31 r41.1) fun x143 => (some ((l31.set (r41.1).toNat ((S_Clock.mk x143.Name x143.Place x143.Period x143.RiseAt x143.FallAt x143.Source x143.Divide x143.Invert x143.EarlyLatency (IntKind.wrap IntKind.i64 (x136.EarlyLatency - 1)) x143.Uncertainty))), (S_l01Source.mk a0_s.code_ r49.2.at_ r49.2.seed_))))) else (bif (r49.1 == 5) then (Option.bind (F_spec_l01Next n ((S_l01Source.mk a0_s.code_ r49.2.at_ r49.2.seed_)) 2) fun r157 => (Option.bind (getI l31 0) fun x165 => (some ((l31.set (0 : Int).toNat ((S_Clock.mk x165.Name x165.Place (IntKind.wrap IntKind.i64 (100000 + r157.1)) x165.RiseAt x165.FallAt x165.Source x165.Divide x165.Invert x165.EarlyLatency x165.LateLatency x165.Uncertainty))), (S_l01Source.mk a0_s.code_ r157.2.at_ r157.2.seed_))))) else (bif (r49.1 == 6) then (F_spec_l14Draw_L2 n (fun l181 => (some (l181, (S_l01Source.mk a0_s.code_ r49.2.at_ r49.2.seed_)))) n l31) else (some (l31, (S_l01Source.mk a0_s.code_ r49.2.at_ r49.2.seed_))))))))))))) m41 l31 i35 i37 i38 = some r) n ?_ ?_
  · intro a hK; exact ⟨(([] : List S_Clock)), v8, (IntKind.wrap IntKind.i64 (1 + r21.1)), r21.2.at_, r21.2.seed_, hK.weaken ⟨rfl, rfl, rfl, trivial⟩, he26, Nat.le_refl _, hb25, ha2, hs15, (fun g hg => by have := hbd19 g hg; omega), (fun g hg => by have := hbd19 g hg; omega), hF⟩
  · rintro m41 a w29 ⟨l31, v32, i35, i37, i38, hK, he30, hz42, hb36, hs39, hs33, hbd34, hp40, hF⟩
    revert hK; revert a; refine (?_ : WC _ _ _ _ _ _)
    cases m41 with
    | zero => rw [F_spec_l14Draw_L1_z] at hF; cases hF
    | succ m41 =>
      rw [F_spec_l14Draw_L1_s] at hF
      refine WC.seq ?_
      refine WC.seq ?_
      refine WC.region ?_
      refine TL.yld rfl rfl (yld_move rfl rfl) ?_
      refine TL.yld rfl rfl (yld_gtr rfl rfl rfl) ?_
      refine TL.done ?_
      refine NX.seq ?_
      refine WC.cond rfl ?_ ?_
      · intro hc43
        replace hF := bif_t hc43 hF
        refine WC.skip' ?_
        refine NX.seq ?_
        refine WC.seq ?_
        refine WC.block ?_
        refine WC.seq ?_
        refine WC.region ?_
        refine TL.yld rfl rfl (yld_move rfl rfl) ?_
        refine TL.yld rfl rfl (yld_len_own (c := C_Clock) rfl Tryd.underlying26 rfl hs33) ?_
        refine TL.yld rfl rfl (yld_assign rfl rfl) ?_
        refine TL.done ?_
        refine NX.seq ?_
        refine WC.seq ?_
        refine WC.region ?_
        refine TL.yld rfl rfl (yld_move rfl rfl) ?_
        obtain ⟨r44, hr45, hF⟩ := bsome hF
        refine TL.eff rfl rfl (eff_call rfl gf_71 rfl (W_spec_l01Next hr45 hb36 hs39 (by omega) (by omega))) ?_
        rintro _ w46 ⟨rfl, hb48, hx47⟩
        have he49 : But (pB b0_) w w46 := But.but he30 hx47 (all_pB (Or.inl rfl))
        have hs39 := slRep.but hs39 hx47 (all_pB (by omega)) (by omega)
        have hp50 : ∀ g, v32.ownBlock = some g → g ≠ b0_ := hp40
        have hs33 := ownR.butF hs33 hx47 (all_pB (fun g hg e => hp50 g hg e.symm))
        have hz51 := (hx47).size
        refine TL.yld rfl rfl (yld_assign rfl rfl) ?_
        refine TL.done ?_
        refine NX.seq ?_
        refine WC.seq ?_
        refine WC.region ?_
        refine TL.yld rfl rfl (yld_move rfl rfl) ?_
        obtain ⟨r52, hr53, hF⟩ := bsome hF
        refine TL.eff rfl rfl (eff_call rfl gf_133 rfl (W_spec_l01Number hr53)) ?_
        rintro _ w54 ⟨rfl, hx55⟩
        have he56 : But (pB b0_) w w54 := But.ext he49 hx55
        have hb48 := Box.ext hb48 hx55
        have hs39 := slRep.old hs39 hx55 (by omega)
        have hs33 := ownR.ext hs33 hx55
        have hz57 := (hx55).size
        obtain ⟨t58, ht59, hF⟩ := bsome hF
        refine TL.yld rfl rfl (yld_cat rfl rfl rfl ht59) ?_
        refine TL.yld rfl rfl (yld_move rfl rfl) ?_
        obtain ⟨r60, hr61, hF⟩ := bsome hF
        refine TL.eff rfl rfl (eff_call rfl gf_71 rfl (W_spec_l01Next hr61 hb48 hs39 (by omega) (by omega))) ?_
        rintro _ w62 ⟨rfl, hb64, hx63⟩
        have he65 : But (pB b0_) w w62 := But.but he56 hx63 (all_pB (Or.inl rfl))
        have hs39 := slRep.but hs39 hx63 (all_pB (by omega)) (by omega)
        have hp66 : ∀ g, v32.ownBlock = some g → g ≠ b0_ := hp40
        have hs33 := ownR.butF hs33 hx63 (all_pB (fun g hg e => hp66 g hg e.symm))
        have hz67 := (hx63).size
        refine TL.yld rfl rfl (yld_move rfl rfl) ?_
        refine TL.yld rfl rfl (yld_move rfl rfl) ?_
        refine TL.yld rfl rfl (yld_move rfl rfl) ?_
        obtain ⟨r68, hr69, hF⟩ := bsome hF
        refine TL.eff rfl rfl (eff_call rfl gf_71 rfl (W_spec_l01Next hr69 hb64 hs39 (by omega) (by omega))) ?_
        rintro _ w70 ⟨rfl, hb72, hx71⟩
        have he73 : But (pB b0_) w w70 := But.but he65 hx71 (all_pB (Or.inl rfl))
        have hs39 := slRep.but hs39 hx71 (all_pB (by omega)) (by omega)
        have hp74 : ∀ g, v32.ownBlock = some g → g ≠ b0_ := hp40
        have hs33 := ownR.butF hs33 hx71 (all_pB (fun g hg e => hp74 g hg e.symm))
        have hz75 := (hx71).size
        refine TL.yld rfl rfl (yld_add rfl rfl rfl) ?_
        refine TL.yld rfl rfl (yld_move rfl rfl) ?_
        obtain ⟨r76, hr77, hF⟩ := bsome hF
        refine TL.eff rfl rfl (eff_call rfl gf_71 rfl (W_spec_l01Next hr77 hb72 hs39 (by omega) (by omega))) ?_
        rintro _ w78 ⟨rfl, hb80, hx79⟩
        have he81 : But (pB b0_) w w78 := But.but he73 hx79 (all_pB (Or.inl rfl))
        have hs39 := slRep.but hs39 hx79 (all_pB (by omega)) (by omega)
        have hp82 : ∀ g, v32.ownBlock = some g → g ≠ b0_ := hp40
        have hs33 := ownR.butF hs33 hx79 (all_pB (fun g hg e => hp82 g hg e.symm))
        have hz83 := (hx79).size
        refine TL.yld rfl rfl (yld_build (uss := [(0, [.string t58]), (1, [.int .i64 r60.1]), (5, [.int .i64 (-1)]), (6, [.int .i64 1]), (8, [.int .i64 r44.1]), (9, [.int .i64 (IntKind.wrap IntKind.i64 (r44.1 + r68.1))]), (10, [.int .i64 r76.1])]) (out := [.string t58, .int .i64 r60.1, .int .i64 0, .int .i64 0, .int .i64 0, .int .i64 (-1), .int .i64 1, .bool false, .int .i64 r44.1, .int .i64 (IntKind.wrap IntKind.i64 (r44.1 + r68.1)), .int .i64 r76.1]) rfl rfl zn_75 pl_75 rfl rfl) ?_
        refine TL.eff rfl rfl (eff_alloc rfl zn_75) ?_
        rintro _ w85 ⟨b84, rfl, hn86⟩
        obtain ⟨hn86e, hn86s, hn86x, hb87⟩ := hn86
        have hb87 : Box w85 b84 [.string ByteArray.empty, .int .i64 0, .int .i64 0, .int .i64 0, .int .i64 0, .int .i64 0, .int .i64 0, .bool false, .int .i64 0, .int .i64 0, .int .i64 0] 75 := hb87
        have he89 : But (pB b0_) w w85 := But.ext he81 hn86x
        have hb80 := Box.ext hb80 hn86x
        have hs39 := slRep.old hs39 hn86x (by omega)
        have hs33 := ownR.ext hs33 hn86x
        have hz90 := (hn86x).size
        have hlo88 : w.heap.size ≤ b84 := by rw [hn86e]; exact (he81).size
        refine TL.eff rfl rfl (eff_store rfl rfl rfl hb87 cn_75 rfl rfl) ?_
        rintro _ w91 ⟨hu92, hb93⟩
        have he94 : But (pB b0_) w w91 := But.upd he89 hu92 (Or.inr (by omega))
        have hb80 := Box.upd hb80 hu92 (by omega)
        have hs39 := slRep.upd hs39 hu92 (by omega)
        have hs33 := ownR.upd hs33 hu92 (fun g hg => by have := hbd34 g hg; omega)
        have hz95 := (hu92).size
        have hb87 : Box w91 b84 [.string t58, .int .i64 r60.1, .int .i64 0, .int .i64 0, .int .i64 0, .int .i64 (-1), .int .i64 1, .bool false, .int .i64 r44.1, .int .i64 (IntKind.wrap IntKind.i64 (r44.1 + r68.1)), .int .i64 r76.1] 75 := hb93
        refine TL.done ?_
        refine NX.seq ?_
        refine WC.seq ?_
        refine WC.seq ?_
        refine WC.region ?_
        refine TL.yld rfl rfl (yld_move rfl rfl) ?_
        refine TL.yld rfl rfl (yld_eql rfl rfl rfl) ?_
        refine TL.yld rfl rfl (yld_move rfl rfl) ?_
        obtain ⟨c96, hb97, hF⟩ := bsome hF
        refine TL.cut 4 [(0, .pointer (some ⟨b0_, 0, none⟩)), (3, v32), (4, .int .i64 i35), (5, .int .i64 ((l31.length : Int))), (7, .pointer (some ⟨b84, 0, none⟩)), (41, .bool c96.1)] (fun w' => But (pB b0_) w91 w' ∧ Box w' b0_ [v1, .int .i64 c96.2.1, .int .i64 c96.2.2] 127) ?_ ?_
        · rcases Bool.eq_false_or_eq_true ((((l31.length : Int)) == 0)) with hg98 | hg98
          ·
            rw [hg98] at hb97; simp only [cond_true, cond_false] at hb97
            refine TL.gnu (j := 2) (t := 37) rfl rfl rfl hg98 rfl ?_
            refine TL.gnu (j := 2) (t := 37) rfl rfl rfl hg98 rfl ?_
            refine TL.gnu (j := 2) (t := 37) rfl rfl rfl hg98 rfl ?_
            obtain rfl := Option.some.inj hb97
            refine TL.yld rfl rfl (yld_pick_t rfl rfl hg98 rfl) ?_
            exact TL.nil fun a h => ⟨h.weaken ⟨rfl, rfl, rfl, rfl, rfl, rfl, trivial⟩, (But.refl _ _), hb80⟩
          ·
            rw [hg98] at hb97; simp only [cond_true, cond_false] at hb97
            replace hF := hb97
            refine TL.gy (j := 2) (t := 37) rfl rfl rfl hg98 rfl (yld_move rfl rfl) ?_
            obtain ⟨r99, hr100, hF⟩ := bsome hF
            refine TL.ge (j := 2) (t := 37) rfl rfl rfl hg98 rfl (eff_call rfl gf_71 rfl (W_spec_l01Next hr100 hb80 hs39 (by omega) (by omega))) ?_
            rintro _ w101 ⟨rfl, hb103, hx102⟩
            have he104 : But (pB b0_) w w101 := But.but he94 hx102 (all_pB (Or.inl rfl))
            have hb87 := Box.but hb87 hx102 (all_pB (by omega))
            have hs39 := slRep.but hs39 hx102 (all_pB (by omega)) (by omega)
            have hp105 : ∀ g, v32.ownBlock = some g → g ≠ b0_ := hp40
            have hs33 := ownR.butF hs33 hx102 (all_pB (fun g hg e => hp105 g hg e.symm))
            have hz106 := (hx102).size
            refine TL.gy (j := 2) (t := 37) rfl rfl rfl hg98 rfl (yld_eql rfl rfl rfl) ?_
            obtain rfl := Option.some.inj hF
            refine TL.yld rfl rfl (yld_pick_f rfl rfl hg98 rfl) ?_
            exact TL.nil fun a h => ⟨h.weaken ⟨rfl, rfl, rfl, rfl, rfl, rfl, trivial⟩, (But.but (But.refl _ _) hx102 (fun k q => Or.inl q)), hb103⟩
        rintro w107 ⟨hx108, hb109⟩
        have he110 : But (pB b0_) w w107 := But.but he94 hx108 (all_pB (Or.inl rfl))
        have hb87 := Box.but hb87 hx108 (all_pB (by omega))
        have hs39 := slRep.but hs39 hx108 (all_pB (by omega)) (by omega)
        have hp111 : ∀ g, v32.ownBlock = some g → g ≠ b0_ := hp40
        have hs33 := ownR.butF hs33 hx108 (all_pB (fun g hg e => hp111 g hg e.symm))
        have hz112 := (hx108).size
        refine TL.done ?_
        refine NX.seq ?_
        refine WC.cond rfl ?_ ?_
        · intro hc113
          replace hF := bif_t hc113 hF
          refine WC.seq ?_
          refine WC.region ?_
          refine TL.eff rfl rfl (eff_buildSlice (c := (cInt .i64)) (xs := [10, 12, 20, 30, 100, 7, 2]) (S := (Iv 0 0)) (uss := [(0, [.int .i64 10]), (1, [.int .i64 12]), (2, [.int .i64 20]), (3, [.int .i64 30]), (4, [.int .i64 100]), (5, [.int .i64 7]), (6, [.int .i64 2])]) (out := [.int .i64 10, .int .i64 12, .int .i64 20, .int .i64 30, .int .i64 100, .int .i64 7, .int .i64 2]) rfl Tryd.underlying42 in_2 rfl rfl (fillL_all [[.int .i64 10], [.int .i64 12], [.int .i64 20], [.int .i64 30], [.int .i64 100], [.int .i64 7], [.int .i64 2]] rfl rfl rfl) rfl rfl rfl rfl (one_rep (uss := [[.int .i64 10], [.int .i64 12], [.int .i64 20], [.int .i64 30], [.int .i64 100], [.int .i64 7], [.int .i64 2]]) (show reps _ _ _ _ _ from ⟨rfl, rfl, rfl, rfl, rfl, rfl, rfl, trivial⟩) rfl) (fun k h => by have := h.2; omega) rfl) ?_
          rintro v114 w115 ⟨g116, hv117, hg118, hz119, hx120, hs121⟩
          have he122 : But (pB b0_) w w115 := But.ext he110 hx120
          have hb109 := Box.ext hb109 hx120
          have hb87 := Box.ext hb87 hx120
          have hs39 := slRep.old hs39 hx120 (by omega)
          have hs33 := ownR.ext hs33 hx120
          have hz123 := (hx120).size
          have hlo124 : w.heap.size ≤ g116 := by rw [hg118]; exact (he110).size
          have hbd125 := bd_of hv117
          clear hv117
          refine TL.yld rfl rfl (yld_move rfl rfl) ?_
          obtain ⟨r127, hr128, hF⟩ := bsome hF
          refine TL.eff rfl rfl (eff_call rfl gf_71 rfl (W_spec_l01Next hr128 hb109 hs39 (by omega) (by omega))) ?_
          rintro _ w129 ⟨rfl, hb131, hx130⟩
          have he132 : But (pB b0_) w w129 := But.but he122 hx130 (all_pB (Or.inl rfl))
          have hb87 := Box.but hb87 hx130 (all_pB (by omega))
          have hs39 := slRep.but hs39 hx130 (all_pB (by omega)) (by omega)
          have hp133 : ∀ g, v32.ownBlock = some g → g ≠ b0_ := hp40
          have hs33 := ownR.butF hs33 hx130 (all_pB (fun g hg e => hp133 g hg e.symm))
          have hp134 : ∀ g, v114.ownBlock = some g → g ≠ b0_ := (fun g hg => by have := hbd125 g hg; omega)
          have hs121 := ownR.butF hs121 hx130 (all_pB (fun g hg e => hp134 g hg e.symm))
          have hz135 := (hx130).size
          obtain ⟨x136, hy137, hF⟩ := bsome hF
          refine TL.ye rfl rfl (ye_index_own (c := (cInt .i64)) rfl Tryd.underlying42 cn_2 rfl rfl hs121 hy137) ?_
          rintro _ ⟨g138, us140, rfl, hg139, hr141, hcl142⟩
          have hr141r := hr141
          obtain rfl := hr141
          refine TL.yld rfl rfl (yld_load1 0 rfl ag_2 rfl hcl142 rfl rfl) ?_
          refine TL.yld rfl rfl (yld_fieldAddr rfl fo_75_2 rfl) ?_
          refine TL.eff rfl rfl (eff_store rfl rfl rfl hb87 cn_2 rfl rfl) ?_
          rintro _ w143 ⟨hu144, hb145⟩
          have he146 : But (pB b0_) w w143 := But.upd he132 hu144 (Or.inr (by omega))
          have hb131 := Box.upd hb131 hu144 (by omega)
          have hs39 := slRep.upd hs39 hu144 (by omega)
          have hs33 := ownR.upd hs33 hu144 (fun g hg => by have := hbd34 g hg; omega)
          have hs121 := ownR.upd hs121 hu144 (fun g hg => by have := hbd125 g hg; omega)
          have hz147 := (hu144).size
          have hb87 : Box w143 b84 [.string t58, .int .i64 r60.1, .int .i64 x136, .int .i64 0, .int .i64 0, .int .i64 (-1), .int .i64 1, .bool false, .int .i64 r44.1, .int .i64 (IntKind.wrap IntKind.i64 (r44.1 + r68.1)), .int .i64 r76.1] 75 := hb145
          refine TL.done ?_
          refine NX.seq ?_
          refine WC.seq ?_
          refine WC.region ?_
          refine TL.yld rfl rfl (yld_move rfl rfl) ?_
          refine TL.yld rfl rfl (yld_fieldAddr rfl fo_75_2 rfl) ?_
          refine TL.yld rfl rfl (yld_load1 2 rfl ag_2 rfl (Box.cells hb87) rfl rfl) ?_
          obtain ⟨r148, hr149, hF⟩ := bsome hF
          refine TL.eff rfl rfl (eff_call rfl gf_71 rfl (W_spec_l01Next hr149 hb131 hs39 (by omega) (by omega))) ?_
          rintro _ w150 ⟨rfl, hb152, hx151⟩
          have he153 : But (pB b0_) w w150 := But.but he146 hx151 (all_pB (Or.inl rfl))
          have hb87 := Box.but hb87 hx151 (all_pB (by omega))
          have hs39 := slRep.but hs39 hx151 (all_pB (by omega)) (by omega)
          have hp154 : ∀ g, v32.ownBlock = some g → g ≠ b0_ := hp40
          have hs33 := ownR.butF hs33 hx151 (all_pB (fun g hg e => hp154 g hg e.symm))
          have hp155 : ∀ g, v114.ownBlock = some g → g ≠ b0_ := (fun g hg => by have := hbd125 g hg; omega)
          have hs121 := ownR.butF hs121 hx151 (all_pB (fun g hg e => hp155 g hg e.symm))
          have hz156 := (hx151).size
          refine TL.yld rfl rfl (yld_fieldAddr rfl fo_75_3 rfl) ?_
          refine TL.eff rfl rfl (eff_store rfl rfl rfl hb87 cn_2 rfl rfl) ?_
          rintro _ w157 ⟨hu158, hb159⟩
          have he160 : But (pB b0_) w w157 := But.upd he153 hu158 (Or.inr (by omega))
          have hb152 := Box.upd hb152 hu158 (by omega)
          have hs39 := slRep.upd hs39 hu158 (by omega)
          have hs33 := ownR.upd hs33 hu158 (fun g hg => by have := hbd34 g hg; omega)
          have hs121 := ownR.upd hs121 hu158 (fun g hg => by have := hbd125 g hg; omega)
          have hz161 := (hu158).size
          have hb87 : Box w157 b84 [.string t58, .int .i64 r60.1, .int .i64 x136, .int .i64 r148.1, .int .i64 0, .int .i64 (-1), .int .i64 1, .bool false, .int .i64 r44.1, .int .i64 (IntKind.wrap IntKind.i64 (r44.1 + r68.1)), .int .i64 r76.1] 75 := hb159
          refine TL.done ?_
          refine NX.seq ?_
          obtain ⟨r162, hr163, hF⟩ := bsome hF
          obtain ⟨hn171, hF⟩ := nzero hF
          refine WC.heldG (p := (pB b0_)) 11 Tryd.hm fun w177 hx178 => ?_
          have he179 : But (pB b0_) w w177 := But.ext he160 hx178
          have hb152 := Box.ext hb152 hx178
          have hb87 := Box.ext hb87 hx178
          have hs39 := slRep.old hs39 hx178 (by omega)
          have hs33 := ownR.ext hs33 hx178
          have hs121 := ownR.ext hs121 hx178
          have hz180 := (hx178).size
          refine HLG.yld 0 (by kernel_rfl) rfl (by kernel_rfl) rfl rfl (fun wx hbx => (yld_fieldAddr rfl fo_75_3 rfl)) ?_
          refine HLG.yld 1 (by kernel_rfl) rfl (by kernel_rfl) rfl rfl (fun wx hbx => (have hb87 := Box.but hb87 hbx (all_pB (by omega)); (yld_load1 3 rfl ag_2 rfl (Box.cells hb87) rfl rfl))) ?_
          refine HLG.yld 2 (by kernel_rfl) rfl (by kernel_rfl) rfl rfl (fun wx hbx => (yld_add rfl rfl rfl)) ?_
          refine HLG.yld 3 (by kernel_rfl) rfl (by kernel_rfl) rfl rfl (fun wx hbx => (yld_move rfl rfl)) ?_
          refine HLG.yld 4 (by kernel_rfl) rfl (by kernel_rfl) rfl rfl (fun wx hbx => (yld_fieldAddr rfl fo_75_2 rfl)) ?_
          refine HLG.yld 5 (by kernel_rfl) rfl (by kernel_rfl) rfl rfl (fun wx hbx => (have hb87 := Box.but hb87 hbx (all_pB (by omega)); (yld_load1 2 rfl ag_2 rfl (Box.cells hb87) rfl rfl))) ?_
          refine HLG.yld 6 (by kernel_rfl) rfl (by kernel_rfl) rfl rfl (fun wx hbx => (yld_sub rfl rfl rfl)) ?_
          refine HLG.yld 9 (by kernel_rfl) rfl (by kernel_rfl) rfl rfl (fun wx hbx => (yld_fieldAddr rfl fo_75_2 rfl)) ?_
          refine HLG.yld 10 (by kernel_rfl) rfl (by kernel_rfl) rfl rfl (fun wx hbx => (have hb87 := Box.but hb87 hbx (all_pB (by omega)); (yld_load1 2 rfl ag_2 rfl (Box.cells hb87) rfl rfl))) ?_
          refine HLG.eff 7 rfl rfl (by kernel_rfl) rfl rfl (eff_call rfl gf_71 rfl (W_spec_l01Next hr163 hb152 hs39 (by omega) (by omega))) ?_
          rintro _ w181 ⟨rfl, hb183, hx182⟩
          have he184 : But (pB b0_) w w181 := But.but he179 hx182 (all_pB (Or.inl rfl))
          have hb87 := Box.but hb87 hx182 (all_pB (by omega))
          have hs39 := slRep.but hs39 hx182 (all_pB (by omega)) (by omega)
          have hp185 : ∀ g, v32.ownBlock = some g → g ≠ b0_ := hp40
          have hs33 := ownR.butF hs33 hx182 (all_pB (fun g hg e => hp185 g hg e.symm))
          have hp186 : ∀ g, v114.ownBlock = some g → g ≠ b0_ := (fun g hg => by have := hbd125 g hg; omega)
          have hs121 := ownR.butF hs121 hx182 (all_pB (fun g hg e => hp186 g hg e.symm))
          have hz187 := (hx182).size
          have hbs188 : But (pB b0_) w177 w181 := (But.but (But.refl _ w177) hx182 (all_pB (Or.inl rfl)))
          refine ⟨hbs188, ?_⟩
          refine HLG.yld 8 (by kernel_rfl) rfl (by kernel_rfl) rfl rfl (fun wx hbx => (yld_add rfl rfl rfl)) ?_
          refine HLG.tail rfl (by kernel_rfl) rfl ?_
          refine TL.yld rfl rfl (yld_rem rfl rfl rfl hn171) ?_
          refine TL.yld rfl rfl (yld_fieldAddr rfl fo_75_4 rfl) ?_
          refine TL.eff rfl rfl (eff_store rfl rfl rfl hb87 cn_2 rfl rfl) ?_
          rintro _ w189 ⟨hu190, hb191⟩
          have he192 : But (pB b0_) w w189 := But.upd he184 hu190 (Or.inr (by omega))
          have hb183 := Box.upd hb183 hu190 (by omega)
          have hs39 := slRep.upd hs39 hu190 (by omega)
          have hs33 := ownR.upd hs33 hu190 (fun g hg => by have := hbd34 g hg; omega)
          have hs121 := ownR.upd hs121 hu190 (fun g hg => by have := hbd125 g hg; omega)
          have hz193 := (hu190).size
          have hb87 : Box w189 b84 [.string t58, .int .i64 r60.1, .int .i64 x136, .int .i64 r148.1, .int .i64 (Int.tmod (IntKind.wrap IntKind.i64 ((IntKind.wrap IntKind.i64 (r148.1 + 1)) + r162.1)) x136), .int .i64 (-1), .int .i64 1, .bool false, .int .i64 r44.1, .int .i64 (IntKind.wrap IntKind.i64 (r44.1 + r68.1)), .int .i64 r76.1] 75 := hb191
          refine TL.noPan (l := []) ?_
          refine NX.seq ?_
          refine WC.region ?_
          refine TL.yld rfl rfl (yld_move rfl rfl) ?_
          refine TL.yld rfl rfl (yld_loadN (us := [.string t58, .int .i64 r60.1, .int .i64 x136, .int .i64 r148.1, .int .i64 (Int.tmod (IntKind.wrap IntKind.i64 ((IntKind.wrap IntKind.i64 (r148.1 + 1)) + r162.1)) x136), .int .i64 (-1), .int .i64 1, .bool false, .int .i64 r44.1, .int .i64 (IntKind.wrap IntKind.i64 (r44.1 + r68.1)), .int .i64 r76.1]) rfl ag_75 rfl (Box.cells hb87) cn_75) ?_
          refine TL.eff rfl rfl (eff_buildSlice (c := C_Clock) (xs := [(S_Clock.mk t58 r60.1 x136 r148.1 (Int.tmod (IntKind.wrap IntKind.i64 ((IntKind.wrap IntKind.i64 (r148.1 + 1)) + r162.1)) x136) (-1) 1 false r44.1 (IntKind.wrap IntKind.i64 (r44.1 + r68.1)) r76.1)]) (S := (Iv 0 0)) (uss := [(0, [.string t58, .int .i64 r60.1, .int .i64 x136, .int .i64 r148.1, .int .i64 (Int.tmod (IntKind.wrap IntKind.i64 ((IntKind.wrap IntKind.i64 (r148.1 + 1)) + r162.1)) x136), .int .i64 (-1), .int .i64 1, .bool false, .int .i64 r44.1, .int .i64 (IntKind.wrap IntKind.i64 (r44.1 + r68.1)), .int .i64 r76.1])]) (out := [.string t58, .int .i64 r60.1, .int .i64 x136, .int .i64 r148.1, .int .i64 (Int.tmod (IntKind.wrap IntKind.i64 ((IntKind.wrap IntKind.i64 (r148.1 + 1)) + r162.1)) x136), .int .i64 (-1), .int .i64 1, .bool false, .int .i64 r44.1, .int .i64 (IntKind.wrap IntKind.i64 (r44.1 + r68.1)), .int .i64 r76.1]) rfl Tryd.underlying26 in_75 rfl rfl (fillL_all [[.string t58, .int .i64 r60.1, .int .i64 x136, .int .i64 r148.1, .int .i64 (Int.tmod (IntKind.wrap IntKind.i64 ((IntKind.wrap IntKind.i64 (r148.1 + 1)) + r162.1)) x136), .int .i64 (-1), .int .i64 1, .bool false, .int .i64 r44.1, .int .i64 (IntKind.wrap IntKind.i64 (r44.1 + r68.1)), .int .i64 r76.1]] rfl rfl rfl) rfl rfl rfl rfl (one_rep (uss := [[.string t58, .int .i64 r60.1, .int .i64 x136, .int .i64 r148.1, .int .i64 (Int.tmod (IntKind.wrap IntKind.i64 ((IntKind.wrap IntKind.i64 (r148.1 + 1)) + r162.1)) x136), .int .i64 (-1), .int .i64 1, .bool false, .int .i64 r44.1, .int .i64 (IntKind.wrap IntKind.i64 (r44.1 + r68.1)), .int .i64 r76.1]]) (show reps _ _ _ _ _ from ⟨C_Clock_mk, trivial⟩) rfl) (fun k h => by have := h.2; omega) rfl) ?_
          rintro v194 w195 ⟨g196, hv197, hg198, hz199, hx200, hs201⟩
          have he202 : But (pB b0_) w w195 := But.ext he192 hx200
          have hb183 := Box.ext hb183 hx200
          have hb87 := Box.ext hb87 hx200
          have hs39 := slRep.old hs39 hx200 (by omega)
          have hs33 := ownR.ext hs33 hx200
          have hs121 := ownR.ext hs121 hx200
          have hz203 := (hx200).size
          have hlo204 : w.heap.size ≤ g196 := by rw [hg198]; exact (he192).size
          have hbd205 := bd_of hv197
          clear hv197
          obtain ⟨z207, ha208, hF⟩ := bsome hF
          refine TL.eff rfl rfl (eff_appendF (c := C_Clock) rfl Tryd.underlying26 in_75 rfl rfl rfl rfl rfl hs33 (by omega) (ownR.slf hs201 (Nat.le_refl _) (Nat.le_refl _)) ha208) ?_
          rintro v209 w210 ⟨hs211, hgr212⟩
          have he214 : But (pB b0_) w w210 := But.grow he202 hgr212 (fun g hg => (Or.inr (by have := hbd34 g hg; omega)))
          have hp215 : ∀ g, v209.ownBlock = some g → g ≠ b0_ := Grew.sepP (p := fun g => g ≠ b0_) hgr212 hp40 (fun g hg => by omega)
          have hb183 := Grew.box hgr212 hb183 hp40
          have hp216 : ∀ g, v209.ownBlock = some g → g ≠ b84 := Grew.sepP (p := fun g => g ≠ b84) hgr212 (fun g hg => by have := hbd34 g hg; omega) (fun g hg => by omega)
          have hb87 := Grew.box hgr212 hb87 (fun g hg => by have := hbd34 g hg; omega)
          have hp217 : ∀ g, v209.ownBlock = some g → g < lo3 ∨ hi4 ≤ g := Grew.sepP (p := fun g => g < lo3 ∨ hi4 ≤ g) hgr212 (fun g hg => by have := hbd34 g hg; omega) (fun g hg => by omega)
          have hs39 := Grew.slr hgr212 hs39 (fun g hg => by have := hbd34 g hg; omega) (by omega)
          have hp218 : ∀ g q, v32.ownBlock = some g → v114.ownBlock = some q → g ≠ q := (fun g q hg hq => by have := hbd34 g hg; have := hbd125 q hq; omega)
          have hp219 : ∀ g q, v209.ownBlock = some g → v114.ownBlock = some q → g ≠ q := fun g q hg hq => Grew.sepP (p := fun g => ∀ q, v114.ownBlock = some q → g ≠ q) hgr212 (fun g hg q hq => (hp218) g q hg hq) (fun g hg q hq => by have := hbd125 q hq; omega) g hg q hq
          have hs121 := Grew.ownF hgr212 hs121 hp218
          have hp220 : ∀ g q, v32.ownBlock = some g → v194.ownBlock = some q → g ≠ q := (fun g q hg hq => by have := hbd34 g hg; have := hbd205 q hq; omega)
          have hp221 : ∀ g q, v209.ownBlock = some g → v194.ownBlock = some q → g ≠ q := fun g q hg hq => Grew.sepP (p := fun g => ∀ q, v194.ownBlock = some q → g ≠ q) hgr212 (fun g hg q hq => (hp220) g q hg hq) (fun g hg q hq => by have := hbd205 q hq; omega) g hg q hq
          have hs201 := Grew.ownF hgr212 hs201 hp220
          have hz222 := (hgr212).1.size
          have hbd223 : ∀ g, v209.ownBlock = some g → g10 ≤ g ∧ g < w210.heap.size := Grew.bd hgr212 hs211 (fun g hg => ⟨by have := hbd34 g hg; omega, (hbd34 g hg).2⟩) (by omega) (by omega)
          refine TL.yld rfl rfl (yld_assign rfl rfl) ?_
          refine TL.done ?_
          refine NX.blk_n ?_
          refine NX.seq ?_
          refine WC.region ?_
          refine TL.yld rfl rfl (yld_move rfl rfl) ?_
          refine TL.yld rfl rfl (yld_sub rfl rfl rfl) ?_
          refine TL.yld rfl rfl (yld_assign rfl rfl) ?_
          refine TL.done ?_
          refine NX.then_n ?_
          intro a hK; exact ⟨m41, Nat.lt_succ_self m41, z207, v209, (IntKind.wrap IntKind.i64 (i35 - 1)), r162.2.at_, r162.2.seed_, hK.weaken ⟨rfl, rfl, rfl, trivial⟩, he214, (by omega), hb183, hs39, hs211, (fun g hg => by have := hbd223 g hg; omega), hp215, hF⟩
        · intro hc224
          replace hF := bif_f hc224 hF
          refine WC.seq ?_
          refine WC.region ?_
          refine TL.yld rfl rfl (yld_move rfl rfl) ?_
          refine TL.yld rfl rfl (yld_move rfl rfl) ?_
          obtain ⟨r225, hr226, hF⟩ := bsome hF
          refine TL.eff rfl rfl (eff_call rfl gf_71 rfl (W_spec_l01Next hr226 hb109 hs39 (by omega) (by omega))) ?_
          rintro _ w227 ⟨rfl, hb229, hx228⟩
          have he230 : But (pB b0_) w w227 := But.but he110 hx228 (all_pB (Or.inl rfl))
          have hb87 := Box.but hb87 hx228 (all_pB (by omega))
          have hs39 := slRep.but hs39 hx228 (all_pB (by omega)) (by omega)
          have hp231 : ∀ g, v32.ownBlock = some g → g ≠ b0_ := hp40
          have hs33 := ownR.butF hs33 hx228 (all_pB (fun g hg e => hp231 g hg e.symm))
          have hz232 := (hx228).size
          refine TL.yld rfl rfl (yld_fieldAddr rfl fo_75_5 rfl) ?_
          refine TL.eff rfl rfl (eff_store rfl rfl rfl hb87 cn_2 rfl rfl) ?_
          rintro _ w233 ⟨hu234, hb235⟩
          have he236 : But (pB b0_) w w233 := But.upd he230 hu234 (Or.inr (by omega))
          have hb229 := Box.upd hb229 hu234 (by omega)
          have hs39 := slRep.upd hs39 hu234 (by omega)
          have hs33 := ownR.upd hs33 hu234 (fun g hg => by have := hbd34 g hg; omega)
          have hz237 := (hu234).size
          have hb87 : Box w233 b84 [.string t58, .int .i64 r60.1, .int .i64 0, .int .i64 0, .int .i64 0, .int .i64 r225.1, .int .i64 1, .bool false, .int .i64 r44.1, .int .i64 (IntKind.wrap IntKind.i64 (r44.1 + r68.1)), .int .i64 r76.1] 75 := hb235
          refine TL.done ?_
          refine NX.seq ?_
          refine WC.seq ?_
          refine WC.region ?_
          refine TL.yld rfl rfl (yld_move rfl rfl) ?_
          obtain ⟨r238, hr239, hF⟩ := bsome hF
          refine TL.eff rfl rfl (eff_call rfl gf_71 rfl (W_spec_l01Next hr239 hb229 hs39 (by omega) (by omega))) ?_
          rintro _ w240 ⟨rfl, hb242, hx241⟩
          have he243 : But (pB b0_) w w240 := But.but he236 hx241 (all_pB (Or.inl rfl))
          have hb87 := Box.but hb87 hx241 (all_pB (by omega))
          have hs39 := slRep.but hs39 hx241 (all_pB (by omega)) (by omega)
          have hp244 : ∀ g, v32.ownBlock = some g → g ≠ b0_ := hp40
          have hs33 := ownR.butF hs33 hx241 (all_pB (fun g hg e => hp244 g hg e.symm))
          have hz245 := (hx241).size
          refine TL.yld rfl rfl (yld_add rfl rfl rfl) ?_
          refine TL.yld rfl rfl (yld_fieldAddr rfl fo_75_6 rfl) ?_
          refine TL.eff rfl rfl (eff_store rfl rfl rfl hb87 cn_2 rfl rfl) ?_
          rintro _ w246 ⟨hu247, hb248⟩
          have he249 : But (pB b0_) w w246 := But.upd he243 hu247 (Or.inr (by omega))
          have hb242 := Box.upd hb242 hu247 (by omega)
          have hs39 := slRep.upd hs39 hu247 (by omega)
          have hs33 := ownR.upd hs33 hu247 (fun g hg => by have := hbd34 g hg; omega)
          have hz250 := (hu247).size
          have hb87 : Box w246 b84 [.string t58, .int .i64 r60.1, .int .i64 0, .int .i64 0, .int .i64 0, .int .i64 r225.1, .int .i64 (IntKind.wrap IntKind.i64 (1 + r238.1)), .bool false, .int .i64 r44.1, .int .i64 (IntKind.wrap IntKind.i64 (r44.1 + r68.1)), .int .i64 r76.1] 75 := hb248
          refine TL.done ?_
          refine NX.seq ?_
          refine WC.region ?_
          refine TL.yld rfl rfl (yld_move rfl rfl) ?_
          obtain ⟨r251, hr252, hF⟩ := bsome hF
          refine TL.eff rfl rfl (eff_call rfl gf_71 rfl (W_spec_l01Next hr252 hb242 hs39 (by omega) (by omega))) ?_
          rintro _ w253 ⟨rfl, hb255, hx254⟩
          have he256 : But (pB b0_) w w253 := But.but he249 hx254 (all_pB (Or.inl rfl))
          have hb87 := Box.but hb87 hx254 (all_pB (by omega))
          have hs39 := slRep.but hs39 hx254 (all_pB (by omega)) (by omega)
          have hp257 : ∀ g, v32.ownBlock = some g → g ≠ b0_ := hp40
          have hs33 := ownR.butF hs33 hx254 (all_pB (fun g hg e => hp257 g hg e.symm))
          have hz258 := (hx254).size
          refine TL.yld rfl rfl (yld_eql rfl rfl rfl) ?_
          refine TL.yld rfl rfl (yld_fieldAddr rfl fo_75_7 rfl) ?_
          refine TL.eff rfl rfl (eff_store rfl rfl rfl hb87 cn_4 rfl rfl) ?_
          rintro _ w259 ⟨hu260, hb261⟩
          have he262 : But (pB b0_) w w259 := But.upd he256 hu260 (Or.inr (by omega))
          have hb255 := Box.upd hb255 hu260 (by omega)
          have hs39 := slRep.upd hs39 hu260 (by omega)
          have hs33 := ownR.upd hs33 hu260 (fun g hg => by have := hbd34 g hg; omega)
          have hz263 := (hu260).size
          have hb87 : Box w259 b84 [.string t58, .int .i64 r60.1, .int .i64 0, .int .i64 0, .int .i64 0, .int .i64 r225.1, .int .i64 (IntKind.wrap IntKind.i64 (1 + r238.1)), .bool ((r251.1 == 0)), .int .i64 r44.1, .int .i64 (IntKind.wrap IntKind.i64 (r44.1 + r68.1)), .int .i64 r76.1] 75 := hb261
          refine TL.done ?_
          refine NX.seq ?_
          refine WC.region ?_
          refine TL.yld rfl rfl (yld_move rfl rfl) ?_
          refine TL.yld rfl rfl (yld_loadN (us := [.string t58, .int .i64 r60.1, .int .i64 0, .int .i64 0, .int .i64 0, .int .i64 r225.1, .int .i64 (IntKind.wrap IntKind.i64 (1 + r238.1)), .bool ((r251.1 == 0)), .int .i64 r44.1, .int .i64 (IntKind.wrap IntKind.i64 (r44.1 + r68.1)), .int .i64 r76.1]) rfl ag_75 rfl (Box.cells hb87) cn_75) ?_
          refine TL.eff rfl rfl (eff_buildSlice (c := C_Clock) (xs := [(S_Clock.mk t58 r60.1 0 0 0 r225.1 (IntKind.wrap IntKind.i64 (1 + r238.1)) ((r251.1 == 0)) r44.1 (IntKind.wrap IntKind.i64 (r44.1 + r68.1)) r76.1)]) (S := (Iv 0 0)) (uss := [(0, [.string t58, .int .i64 r60.1, .int .i64 0, .int .i64 0, .int .i64 0, .int .i64 r225.1, .int .i64 (IntKind.wrap IntKind.i64 (1 + r238.1)), .bool ((r251.1 == 0)), .int .i64 r44.1, .int .i64 (IntKind.wrap IntKind.i64 (r44.1 + r68.1)), .int .i64 r76.1])]) (out := [.string t58, .int .i64 r60.1, .int .i64 0, .int .i64 0, .int .i64 0, .int .i64 r225.1, .int .i64 (IntKind.wrap IntKind.i64 (1 + r238.1)), .bool ((r251.1 == 0)), .int .i64 r44.1, .int .i64 (IntKind.wrap IntKind.i64 (r44.1 + r68.1)), .int .i64 r76.1]) rfl Tryd.underlying26 in_75 rfl rfl (fillL_all [[.string t58, .int .i64 r60.1, .int .i64 0, .int .i64 0, .int .i64 0, .int .i64 r225.1, .int .i64 (IntKind.wrap IntKind.i64 (1 + r238.1)), .bool ((r251.1 == 0)), .int .i64 r44.1, .int .i64 (IntKind.wrap IntKind.i64 (r44.1 + r68.1)), .int .i64 r76.1]] rfl rfl rfl) rfl rfl rfl rfl (one_rep (uss := [[.string t58, .int .i64 r60.1, .int .i64 0, .int .i64 0, .int .i64 0, .int .i64 r225.1, .int .i64 (IntKind.wrap IntKind.i64 (1 + r238.1)), .bool ((r251.1 == 0)), .int .i64 r44.1, .int .i64 (IntKind.wrap IntKind.i64 (r44.1 + r68.1)), .int .i64 r76.1]]) (show reps _ _ _ _ _ from ⟨C_Clock_mk, trivial⟩) rfl) (fun k h => by have := h.2; omega) rfl) ?_
          rintro v264 w265 ⟨g266, hv267, hg268, hz269, hx270, hs271⟩
          have he272 : But (pB b0_) w w265 := But.ext he262 hx270
          have hb255 := Box.ext hb255 hx270
          have hb87 := Box.ext hb87 hx270
          have hs39 := slRep.old hs39 hx270 (by omega)
          have hs33 := ownR.ext hs33 hx270
          have hz273 := (hx270).size
          have hlo274 : w.heap.size ≤ g266 := by rw [hg268]; exact (he262).size
          have hbd275 := bd_of hv267
          clear hv267
          obtain ⟨z277, ha278, hF⟩ := bsome hF
          refine TL.eff rfl rfl (eff_appendF (c := C_Clock) rfl Tryd.underlying26 in_75 rfl rfl rfl rfl rfl hs33 (by omega) (ownR.slf hs271 (Nat.le_refl _) (Nat.le_refl _)) ha278) ?_
          rintro v279 w280 ⟨hs281, hgr282⟩
          have he284 : But (pB b0_) w w280 := But.grow he272 hgr282 (fun g hg => (Or.inr (by have := hbd34 g hg; omega)))
          have hp285 : ∀ g, v279.ownBlock = some g → g ≠ b0_ := Grew.sepP (p := fun g => g ≠ b0_) hgr282 hp40 (fun g hg => by omega)
          have hb255 := Grew.box hgr282 hb255 hp40
          have hp286 : ∀ g, v279.ownBlock = some g → g ≠ b84 := Grew.sepP (p := fun g => g ≠ b84) hgr282 (fun g hg => by have := hbd34 g hg; omega) (fun g hg => by omega)
          have hb87 := Grew.box hgr282 hb87 (fun g hg => by have := hbd34 g hg; omega)
          have hp287 : ∀ g, v279.ownBlock = some g → g < lo3 ∨ hi4 ≤ g := Grew.sepP (p := fun g => g < lo3 ∨ hi4 ≤ g) hgr282 (fun g hg => by have := hbd34 g hg; omega) (fun g hg => by omega)
          have hs39 := Grew.slr hgr282 hs39 (fun g hg => by have := hbd34 g hg; omega) (by omega)
          have hp288 : ∀ g q, v32.ownBlock = some g → v264.ownBlock = some q → g ≠ q := (fun g q hg hq => by have := hbd34 g hg; have := hbd275 q hq; omega)
          have hp289 : ∀ g q, v279.ownBlock = some g → v264.ownBlock = some q → g ≠ q := fun g q hg hq => Grew.sepP (p := fun g => ∀ q, v264.ownBlock = some q → g ≠ q) hgr282 (fun g hg q hq => (hp288) g q hg hq) (fun g hg q hq => by have := hbd275 q hq; omega) g hg q hq
          have hs271 := Grew.ownF hgr282 hs271 hp288
          have hz290 := (hgr282).1.size
          have hbd291 : ∀ g, v279.ownBlock = some g → g10 ≤ g ∧ g < w280.heap.size := Grew.bd hgr282 hs281 (fun g hg => ⟨by have := hbd34 g hg; omega, (hbd34 g hg).2⟩) (by omega) (by omega)
          refine TL.yld rfl rfl (yld_assign rfl rfl) ?_
          refine TL.done ?_
          refine NX.blk_n ?_
          refine NX.seq ?_
          refine WC.region ?_
          refine TL.yld rfl rfl (yld_move rfl rfl) ?_
          refine TL.yld rfl rfl (yld_sub rfl rfl rfl) ?_
          refine TL.yld rfl rfl (yld_assign rfl rfl) ?_
          refine TL.done ?_
          refine NX.then_n ?_
          intro a hK; exact ⟨m41, Nat.lt_succ_self m41, z277, v279, (IntKind.wrap IntKind.i64 (i35 - 1)), r251.2.at_, r251.2.seed_, hK.weaken ⟨rfl, rfl, rfl, trivial⟩, he284, (by omega), hb255, hs39, hs281, (fun g hg => by have := hbd291 g hg; omega), hp285, hF⟩
      · intro hc292
        replace hF := bif_f hc292 hF
        refine WC.exit' ?_
        refine NX.then_e ?_
        refine NX.then_e ?_
        refine NX.blk_hit ?_
        refine NX.seq ?_
        refine WC.seq ?_
        refine WC.region ?_
        refine TL.yld rfl rfl (yld_move rfl rfl) ?_
        refine TL.yld rfl rfl (yld_move rfl rfl) ?_
        refine TL.yld rfl rfl (yld_len_own (c := C_Clock) rfl Tryd.underlying26 rfl hs33) ?_
        obtain ⟨r293, hr294, hF⟩ := bsome hF
        refine TL.eff rfl rfl (eff_call rfl gf_71 rfl (W_spec_l01Next hr294 hb36 hs39 (by omega) (by omega))) ?_
        rintro _ w295 ⟨rfl, hb297, hx296⟩
        have he298 : But (pB b0_) w w295 := But.but he30 hx296 (all_pB (Or.inl rfl))
        have hs39 := slRep.but hs39 hx296 (all_pB (by omega)) (by omega)
        have hp299 : ∀ g, v32.ownBlock = some g → g ≠ b0_ := hp40
        have hs33 := ownR.butF hs33 hx296 (all_pB (fun g hg e => hp299 g hg e.symm))
        have hz300 := (hx296).size
        refine TL.yld rfl rfl (yld_assign rfl rfl) ?_
        refine TL.done ?_
        refine NX.seq ?_
        refine WC.seq ?_
        refine WC.seq ?_
        refine WC.region ?_
        refine TL.yld rfl rfl (yld_move rfl rfl) ?_
        obtain ⟨r301, hr302, hF⟩ := bsome hF
        refine TL.eff rfl rfl (eff_call rfl gf_71 rfl (W_spec_l01Next hr302 hb297 hs39 (by omega) (by omega))) ?_
        rintro _ w303 ⟨rfl, hb305, hx304⟩
        have he306 : But (pB b0_) w w303 := But.but he298 hx304 (all_pB (Or.inl rfl))
        have hs39 := slRep.but hs39 hx304 (all_pB (by omega)) (by omega)
        have hp307 : ∀ g, v32.ownBlock = some g → g ≠ b0_ := hp40
        have hs33 := ownR.butF hs33 hx304 (all_pB (fun g hg e => hp307 g hg e.symm))
        have hz308 := (hx304).size
        refine TL.done ?_
        refine NX.seq ?_
        refine WC.block ?_
        refine WC.seq ?_
        refine WC.region ?_
        refine TL.yld rfl rfl (yld_eql rfl rfl rfl) ?_
        refine TL.yld rfl rfl (yld_assign rfl rfl) ?_
        refine TL.done ?_
        refine NX.seq ?_
        refine WC.cond rfl ?_ ?_
        · intro hc309
          replace hF := bif_t hc309 hF
          refine WC.region ?_
          refine TL.yld rfl rfl (yld_move rfl rfl) ?_
          refine TL.yld rfl rfl (yld_move rfl rfl) ?_
          refine TL.yld rfl rfl (yld_move rfl rfl) ?_
          obtain ⟨r310, hr311, hF⟩ := bsome hF
          refine TL.eff rfl rfl (eff_call rfl gf_71 rfl (W_spec_l01Next hr311 hb305 hs39 (by omega) (by omega))) ?_
          rintro _ w312 ⟨rfl, hb314, hx313⟩
          have he315 : But (pB b0_) w w312 := But.but he306 hx313 (all_pB (Or.inl rfl))
          have hs39 := slRep.but hs39 hx313 (all_pB (by omega)) (by omega)
          have hp316 : ∀ g, v32.ownBlock = some g → g ≠ b0_ := hp40
          have hs33 := ownR.butF hs33 hx313 (all_pB (fun g hg e => hp316 g hg e.symm))
          have hz317 := (hx313).size
          refine TL.yld rfl rfl (yld_mul rfl rfl rfl) ?_
          obtain ⟨x318, hy319, hF⟩ := bsome hF
          refine TL.ye rfl rfl (ye_index_own (c := C_Clock) rfl Tryd.underlying26 cn_75 rfl rfl hs33 hy319) ?_
          rintro _ ⟨g320, us322, rfl, hg321, hr323, hcl324⟩
          have hr323r := hr323
          obtain rfl := C_Clock_open hr323
          refine TL.yld rfl rfl (yld_fieldAddr rfl fo_75_6 rfl) ?_
          refine TL.eff rfl rfl (eff_store_own (c := C_Clock) (us' := [.string x318.Name, .int .i64 x318.Place, .int .i64 x318.Period, .int .i64 x318.RiseAt, .int .i64 x318.FallAt, .int .i64 x318.Source, .int .i64 (IntKind.wrap IntKind.i64 (9 * r310.1)), .bool x318.Invert, .int .i64 x318.EarlyLatency, .int .i64 x318.LateLatency, .int .i64 x318.Uncertainty]) (y' := (S_Clock.mk x318.Name x318.Place x318.Period x318.RiseAt x318.FallAt x318.Source (IntKind.wrap IntKind.i64 (9 * r310.1)) x318.Invert x318.EarlyLatency x318.LateLatency x318.Uncertainty)) 6 _ rfl rfl rfl hs33 hg321 hy319 rfl cn_2 rfl hr323r hcl324 rfl rfl C_Clock_mk (fun k h => absurd h.2 (Nat.not_lt_zero k))) ?_
          rintro _ w325 ⟨hu326, hs327⟩
          have he328 : But (pB b0_) w w325 := But.upd he315 hu326 (Or.inr (by have := hbd34 _ hg321; omega))
          have hb314 := Box.upd hb314 hu326 (by have := hp40 _ hg321; omega)
          have hs39 := slRep.upd hs39 hu326 (by have := hbd34 _ hg321; omega)
          have hz329 := (hu326).size
          refine TL.done ?_
          refine NX.blk_n ?_
          refine NX.seq ?_
          refine WC.seq ?_
          refine WC.region ?_
          refine TL.yld rfl rfl (yld_move rfl rfl) ?_
          refine TL.yld rfl rfl (yld_assign rfl rfl) ?_
          refine TL.done ?_
          refine NX.seq ?_
          refine WC.ret' ?_
          obtain rfl := Option.some.inj hF
          exact NX.end (rs := [.tmp 2]) (vs := [v32]) rfl ⟨rfl, trivial⟩ ⟨_, rfl, _, rfl, ownR.base hs327 (by omega), hb314, he328⟩
        · intro hc330
          replace hF := bif_f hc330 hF
          refine WC.seq ?_
          refine WC.region ?_
          refine TL.yld rfl rfl (yld_eql rfl rfl rfl) ?_
          refine TL.yld rfl rfl (yld_assign rfl rfl) ?_
          refine TL.done ?_
          refine NX.seq ?_
          refine WC.cond rfl ?_ ?_
          · intro hc331
            replace hF := bif_t hc331 hF
            refine WC.region ?_
            refine TL.yld rfl rfl (yld_move rfl rfl) ?_
            refine TL.yld rfl rfl (yld_move rfl rfl) ?_
            refine TL.yld rfl rfl (yld_move rfl rfl) ?_
            refine TL.yld rfl rfl (yld_move rfl rfl) ?_
            obtain ⟨x332, hy333, hF⟩ := bsome hF
            refine TL.ye rfl rfl (ye_index_own (c := C_Clock) rfl Tryd.underlying26 cn_75 rfl rfl hs33 hy333) ?_
            rintro _ ⟨g334, us336, rfl, hg335, hr337, hcl338⟩
            have hr337r := hr337
            obtain rfl := C_Clock_open hr337
            refine TL.yld rfl rfl (yld_fieldAddr rfl fo_75_3 rfl) ?_
            refine TL.yld rfl rfl (yld_load1 3 rfl ag_2 rfl hcl338 rfl rfl) ?_
            obtain ⟨x339, hy340, hF⟩ := bsome hF
            refine TL.ye rfl rfl (ye_index_own (c := C_Clock) rfl Tryd.underlying26 cn_75 rfl rfl hs33 hy340) ?_
            rintro _ ⟨g341, us343, rfl, hg342, hr344, hcl345⟩
            have hr344r := hr344
            obtain rfl := C_Clock_open hr344
            refine TL.yld rfl rfl (yld_fieldAddr rfl fo_75_4 rfl) ?_
            refine TL.eff rfl rfl (eff_store_own (c := C_Clock) (us' := [.string x339.Name, .int .i64 x339.Place, .int .i64 x339.Period, .int .i64 x339.RiseAt, .int .i64 x332.RiseAt, .int .i64 x339.Source, .int .i64 x339.Divide, .bool x339.Invert, .int .i64 x339.EarlyLatency, .int .i64 x339.LateLatency, .int .i64 x339.Uncertainty]) (y' := (S_Clock.mk x339.Name x339.Place x339.Period x339.RiseAt x332.RiseAt x339.Source x339.Divide x339.Invert x339.EarlyLatency x339.LateLatency x339.Uncertainty)) 4 _ rfl rfl rfl hs33 hg342 hy340 rfl cn_2 rfl hr344r hcl345 rfl rfl C_Clock_mk (fun k h => absurd h.2 (Nat.not_lt_zero k))) ?_
            rintro _ w346 ⟨hu347, hs348⟩
            have he349 : But (pB b0_) w w346 := But.upd he306 hu347 (Or.inr (by have := hbd34 _ hg342; omega))
            have hb305 := Box.upd hb305 hu347 (by have := hp40 _ hg342; omega)
            have hs39 := slRep.upd hs39 hu347 (by have := hbd34 _ hg342; omega)
            have hz350 := (hu347).size
            refine TL.done ?_
            refine NX.blk_n ?_
            refine NX.seq ?_
            refine WC.seq ?_
            refine WC.region ?_
            refine TL.yld rfl rfl (yld_move rfl rfl) ?_
            refine TL.yld rfl rfl (yld_assign rfl rfl) ?_
            refine TL.done ?_
            refine NX.seq ?_
            refine WC.ret' ?_
            obtain rfl := Option.some.inj hF
            exact NX.end (rs := [.tmp 2]) (vs := [v32]) rfl ⟨rfl, trivial⟩ ⟨_, rfl, _, rfl, ownR.base hs348 (by omega), hb305, he349⟩
          · intro hc351
            replace hF := bif_f hc351 hF
            refine WC.seq ?_
            refine WC.region ?_
            refine TL.yld rfl rfl (yld_eql rfl rfl rfl) ?_
            refine TL.yld rfl rfl (yld_assign rfl rfl) ?_
            refine TL.done ?_
            refine NX.seq ?_
            refine WC.cond rfl ?_ ?_
            · intro hc352
              replace hF := bif_t hc352 hF
              refine WC.region ?_
              refine TL.yld rfl rfl (yld_move rfl rfl) ?_
              refine TL.yld rfl rfl (yld_move rfl rfl) ?_
              refine TL.yld rfl rfl (yld_move rfl rfl) ?_
              obtain ⟨x353, hy354, hF⟩ := bsome hF
              refine TL.ye rfl rfl (ye_index_own (c := C_Clock) rfl Tryd.underlying26 cn_75 rfl rfl hs33 hy354) ?_
              rintro _ ⟨g355, us357, rfl, hg356, hr358, hcl359⟩
              have hr358r := hr358
              obtain rfl := C_Clock_open hr358
              refine TL.yld rfl rfl (yld_fieldAddr rfl fo_75_0 rfl) ?_
              refine TL.yld rfl rfl (yld_load1 0 rfl ag_9 rfl hcl359 rfl rfl) ?_
              obtain ⟨x360, hy361, hF⟩ := bsome hF
              refine TL.ye rfl rfl (ye_index_own (c := C_Clock) rfl Tryd.underlying26 cn_75 rfl rfl hs33 hy361) ?_
              rintro _ ⟨g362, us364, rfl, hg363, hr365, hcl366⟩
              have hr365r := hr365
              obtain rfl := C_Clock_open hr365
              refine TL.yld rfl rfl (yld_fieldAddr rfl fo_75_0 rfl) ?_
              refine TL.eff rfl rfl (eff_store_own (c := C_Clock) (us' := [.string x353.Name, .int .i64 x360.Place, .int .i64 x360.Period, .int .i64 x360.RiseAt, .int .i64 x360.FallAt, .int .i64 x360.Source, .int .i64 x360.Divide, .bool x360.Invert, .int .i64 x360.EarlyLatency, .int .i64 x360.LateLatency, .int .i64 x360.Uncertainty]) (y' := (S_Clock.mk x353.Name x360.Place x360.Period x360.RiseAt x360.FallAt x360.Source x360.Divide x360.Invert x360.EarlyLatency x360.LateLatency x360.Uncertainty)) 0 _ rfl rfl rfl hs33 hg363 hy361 rfl cn_9 rfl hr365r hcl366 rfl rfl C_Clock_mk (fun k h => absurd h.2 (Nat.not_lt_zero k))) ?_
              rintro _ w367 ⟨hu368, hs369⟩
              have he370 : But (pB b0_) w w367 := But.upd he306 hu368 (Or.inr (by have := hbd34 _ hg363; omega))
              have hb305 := Box.upd hb305 hu368 (by have := hp40 _ hg363; omega)
              have hs39 := slRep.upd hs39 hu368 (by have := hbd34 _ hg363; omega)
              have hz371 := (hu368).size
              refine TL.done ?_
              refine NX.blk_n ?_
              refine NX.seq ?_
              refine WC.seq ?_
              refine WC.region ?_
              refine TL.yld rfl rfl (yld_move rfl rfl) ?_
              refine TL.yld rfl rfl (yld_assign rfl rfl) ?_
              refine TL.done ?_
              refine NX.seq ?_
              refine WC.ret' ?_
              obtain rfl := Option.some.inj hF
              exact NX.end (rs := [.tmp 2]) (vs := [v32]) rfl ⟨rfl, trivial⟩ ⟨_, rfl, _, rfl, ownR.base hs369 (by omega), hb305, he370⟩
            · intro hc372
              replace hF := bif_f hc372 hF
              refine WC.seq ?_
              refine WC.region ?_
              refine TL.yld rfl rfl (yld_eql rfl rfl rfl) ?_
              refine TL.yld rfl rfl (yld_assign rfl rfl) ?_
              refine TL.done ?_
              refine NX.seq ?_
              refine WC.cond rfl ?_ ?_
              · intro hc373
                replace hF := bif_t hc373 hF
                refine WC.region ?_
                refine TL.yld rfl rfl (yld_move rfl rfl) ?_
                refine TL.yld rfl rfl (yld_move rfl rfl) ?_
                refine TL.yld rfl rfl (yld_move rfl rfl) ?_
                obtain ⟨x374, hy375, hF⟩ := bsome hF
                refine TL.ye rfl rfl (ye_index_own (c := C_Clock) rfl Tryd.underlying26 cn_75 rfl rfl hs33 hy375) ?_
                rintro _ ⟨g376, us378, rfl, hg377, hr379, hcl380⟩
                have hr379r := hr379
                obtain rfl := C_Clock_open hr379
                refine TL.yld rfl rfl (yld_fieldAddr rfl fo_75_5 rfl) ?_
                refine TL.eff rfl rfl (eff_store_own (c := C_Clock) (us' := [.string x374.Name, .int .i64 x374.Place, .int .i64 x374.Period, .int .i64 x374.RiseAt, .int .i64 x374.FallAt, .int .i64 r293.1, .int .i64 x374.Divide, .bool x374.Invert, .int .i64 x374.EarlyLatency, .int .i64 x374.LateLatency, .int .i64 x374.Uncertainty]) (y' := (S_Clock.mk x374.Name x374.Place x374.Period x374.RiseAt x374.FallAt r293.1 x374.Divide x374.Invert x374.EarlyLatency x374.LateLatency x374.Uncertainty)) 5 _ rfl rfl rfl hs33 hg377 hy375 rfl cn_2 rfl hr379r hcl380 rfl rfl C_Clock_mk (fun k h => absurd h.2 (Nat.not_lt_zero k))) ?_
                rintro _ w381 ⟨hu382, hs383⟩
                have he384 : But (pB b0_) w w381 := But.upd he306 hu382 (Or.inr (by have := hbd34 _ hg377; omega))
                have hb305 := Box.upd hb305 hu382 (by have := hp40 _ hg377; omega)
                have hs39 := slRep.upd hs39 hu382 (by have := hbd34 _ hg377; omega)
                have hz385 := (hu382).size
                refine TL.done ?_
                refine NX.blk_n ?_
                refine NX.seq ?_
                refine WC.seq ?_
                refine WC.region ?_
                refine TL.yld rfl rfl (yld_move rfl rfl) ?_
                refine TL.yld rfl rfl (yld_assign rfl rfl) ?_
                refine TL.done ?_
                refine NX.seq ?_
                refine WC.ret' ?_
                obtain rfl := Option.some.inj hF
                exact NX.end (rs := [.tmp 2]) (vs := [v32]) rfl ⟨rfl, trivial⟩ ⟨_, rfl, _, rfl, ownR.base hs383 (by omega), hb305, he384⟩
              · intro hc386
                replace hF := bif_f hc386 hF
                refine WC.seq ?_
                refine WC.region ?_
                refine TL.yld rfl rfl (yld_eql rfl rfl rfl) ?_
                refine TL.yld rfl rfl (yld_assign rfl rfl) ?_
                refine TL.done ?_
                refine NX.seq ?_
                refine WC.cond rfl ?_ ?_
                · intro hc387
                  replace hF := bif_t hc387 hF
                  refine WC.region ?_
                  refine TL.yld rfl rfl (yld_move rfl rfl) ?_
                  refine TL.yld rfl rfl (yld_move rfl rfl) ?_
                  refine TL.yld rfl rfl (yld_move rfl rfl) ?_
                  refine TL.yld rfl rfl (yld_move rfl rfl) ?_
                  obtain ⟨x388, hy389, hF⟩ := bsome hF
                  refine TL.ye rfl rfl (ye_index_own (c := C_Clock) rfl Tryd.underlying26 cn_75 rfl rfl hs33 hy389) ?_
                  rintro _ ⟨g390, us392, rfl, hg391, hr393, hcl394⟩
                  have hr393r := hr393
                  obtain rfl := C_Clock_open hr393
                  refine TL.yld rfl rfl (yld_fieldAddr rfl fo_75_8 rfl) ?_
                  refine TL.yld rfl rfl (yld_load1 8 rfl ag_2 rfl hcl394 rfl rfl) ?_
                  refine TL.yld rfl rfl (yld_sub rfl rfl rfl) ?_
                  obtain ⟨x395, hy396, hF⟩ := bsome hF
                  refine TL.ye rfl rfl (ye_index_own (c := C_Clock) rfl Tryd.underlying26 cn_75 rfl rfl hs33 hy396) ?_
                  rintro _ ⟨g397, us399, rfl, hg398, hr400, hcl401⟩
                  have hr400r := hr400
                  obtain rfl := C_Clock_open hr400
                  refine TL.yld rfl rfl (yld_fieldAddr rfl fo_75_9 rfl) ?_
                  refine TL.eff rfl rfl (eff_store_own (c := C_Clock) (us' := [.string x395.Name, .int .i64 x395.Place, .int .i64 x395.Period, .int .i64 x395.RiseAt, .int .i64 x395.FallAt, .int .i64 x395.Source, .int .i64 x395.Divide, .bool x395.Invert, .int .i64 x395.EarlyLatency, .int .i64 (IntKind.wrap IntKind.i64 (x388.EarlyLatency - 1)), .int .i64 x395.Uncertainty]) (y' := (S_Clock.mk x395.Name x395.Place x395.Period x395.RiseAt x395.FallAt x395.Source x395.Divide x395.Invert x395.EarlyLatency (IntKind.wrap IntKind.i64 (x388.EarlyLatency - 1)) x395.Uncertainty)) 9 _ rfl rfl rfl hs33 hg398 hy396 rfl cn_2 rfl hr400r hcl401 rfl rfl C_Clock_mk (fun k h => absurd h.2 (Nat.not_lt_zero k))) ?_
                  rintro _ w402 ⟨hu403, hs404⟩
                  have he405 : But (pB b0_) w w402 := But.upd he306 hu403 (Or.inr (by have := hbd34 _ hg398; omega))
                  have hb305 := Box.upd hb305 hu403 (by have := hp40 _ hg398; omega)
                  have hs39 := slRep.upd hs39 hu403 (by have := hbd34 _ hg398; omega)
                  have hz406 := (hu403).size
                  refine TL.done ?_
                  refine NX.blk_n ?_
                  refine NX.seq ?_
                  refine WC.seq ?_
                  refine WC.region ?_
                  refine TL.yld rfl rfl (yld_move rfl rfl) ?_
                  refine TL.yld rfl rfl (yld_assign rfl rfl) ?_
                  refine TL.done ?_
                  refine NX.seq ?_
                  refine WC.ret' ?_
                  obtain rfl := Option.some.inj hF
                  exact NX.end (rs := [.tmp 2]) (vs := [v32]) rfl ⟨rfl, trivial⟩ ⟨_, rfl, _, rfl, ownR.base hs404 (by omega), hb305, he405⟩
                · intro hc407
                  replace hF := bif_f hc407 hF
                  refine WC.seq ?_
                  refine WC.region ?_
                  refine TL.yld rfl rfl (yld_eql rfl rfl rfl) ?_
                  refine TL.yld rfl rfl (yld_assign rfl rfl) ?_
                  refine TL.done ?_
                  refine NX.seq ?_
                  refine WC.cond rfl ?_ ?_
                  · intro hc408
                    replace hF := bif_t hc408 hF
                    refine WC.region ?_
                    refine TL.yld rfl rfl (yld_move rfl rfl) ?_
                    refine TL.yld rfl rfl (yld_move rfl rfl) ?_
                    obtain ⟨r409, hr410, hF⟩ := bsome hF
                    refine TL.eff rfl rfl (eff_call rfl gf_71 rfl (W_spec_l01Next hr410 hb305 hs39 (by omega) (by omega))) ?_
                    rintro _ w411 ⟨rfl, hb413, hx412⟩
                    have he414 : But (pB b0_) w w411 := But.but he306 hx412 (all_pB (Or.inl rfl))
                    have hs39 := slRep.but hs39 hx412 (all_pB (by omega)) (by omega)
                    have hp415 : ∀ g, v32.ownBlock = some g → g ≠ b0_ := hp40
                    have hs33 := ownR.butF hs33 hx412 (all_pB (fun g hg e => hp415 g hg e.symm))
                    have hz416 := (hx412).size
                    refine TL.yld rfl rfl (yld_add rfl rfl rfl) ?_
                    obtain ⟨x417, hy418, hF⟩ := bsome hF
                    refine TL.ye rfl rfl (ye_index_own (c := C_Clock) rfl Tryd.underlying26 cn_75 rfl rfl hs33 hy418) ?_
                    rintro _ ⟨g419, us421, rfl, hg420, hr422, hcl423⟩
                    have hr422r := hr422
                    obtain rfl := C_Clock_open hr422
                    refine TL.yld rfl rfl (yld_fieldAddr rfl fo_75_2 rfl) ?_
                    refine TL.eff rfl rfl (eff_store_own (c := C_Clock) (us' := [.string x417.Name, .int .i64 x417.Place, .int .i64 (IntKind.wrap IntKind.i64 (100000 + r409.1)), .int .i64 x417.RiseAt, .int .i64 x417.FallAt, .int .i64 x417.Source, .int .i64 x417.Divide, .bool x417.Invert, .int .i64 x417.EarlyLatency, .int .i64 x417.LateLatency, .int .i64 x417.Uncertainty]) (y' := (S_Clock.mk x417.Name x417.Place (IntKind.wrap IntKind.i64 (100000 + r409.1)) x417.RiseAt x417.FallAt x417.Source x417.Divide x417.Invert x417.EarlyLatency x417.LateLatency x417.Uncertainty)) 2 _ rfl rfl rfl hs33 hg420 hy418 rfl cn_2 rfl hr422r hcl423 rfl rfl C_Clock_mk (fun k h => absurd h.2 (Nat.not_lt_zero k))) ?_
                    rintro _ w424 ⟨hu425, hs426⟩
                    have he427 : But (pB b0_) w w424 := But.upd he414 hu425 (Or.inr (by have := hbd34 _ hg420; omega))
                    have hb413 := Box.upd hb413 hu425 (by have := hp40 _ hg420; omega)
                    have hs39 := slRep.upd hs39 hu425 (by have := hbd34 _ hg420; omega)
                    have hz428 := (hu425).size
                    refine TL.done ?_
                    refine NX.blk_n ?_
                    refine NX.seq ?_
                    refine WC.seq ?_
                    refine WC.region ?_
                    refine TL.yld rfl rfl (yld_move rfl rfl) ?_
                    refine TL.yld rfl rfl (yld_assign rfl rfl) ?_
                    refine TL.done ?_
                    refine NX.seq ?_
                    refine WC.ret' ?_
                    obtain rfl := Option.some.inj hF
                    exact NX.end (rs := [.tmp 2]) (vs := [v32]) rfl ⟨rfl, trivial⟩ ⟨_, rfl, _, rfl, ownR.base hs426 (by omega), hb413, he427⟩
                  · intro hc429
                    replace hF := bif_f hc429 hF
                    refine WC.seq ?_
                    refine WC.region ?_
                    refine TL.yld rfl rfl (yld_eql rfl rfl rfl) ?_
                    refine TL.yld rfl rfl (yld_assign rfl rfl) ?_
                    refine TL.done ?_
                    refine NX.seq ?_
                    refine WC.cond rfl ?_ ?_
                    · intro hc430
                      replace hF := bif_t hc430 hF
                      refine WC.block ?_
                      refine WC.loop (fun m440 a wl => ∃ (l433 : List S_Clock) (v434 : Value), Kn 163 [(3, v434)] a ∧ But (pB b0_) w wl ∧ w303.heap.size ≤ wl.heap.size ∧ Box wl b0_ [v1, .int .i64 r301.2.at_, .int .i64 r301.2.seed_] 127 ∧ slRep (cInt .u8) wl (Iv lo3 hi4) a0_s.code_ v1 ∧ ownR C_Clock wl (g10) (Iv 0 0) 75 l433 v434 ∧ (∀ q, v434.ownBlock = some q → g10 ≤ q ∧ q < wl.heap.size) ∧ (∀ g, v434.ownBlock = some g → g ≠ b0_) ∧ F_spec_l14Draw_L2 n (fun l433 => (some (l433, (S_l01Source.mk a0_s.code_ r301.2.at_ r301.2.seed_)))) m440 l433 = some r) n ?_ ?_
                      · intro a hK; exact ⟨l31, v32, hK.weaken ⟨rfl, trivial⟩, he306, Nat.le_refl _, hb305, hs39, hs33, (fun g hg => by have := hbd34 g hg; omega), hp40, hF⟩
                      · rintro m440 a w431 ⟨l433, v434, hK, he432, hz441, hb437, hs438, hs435, hbd436, hp439, hF⟩
                        revert hK; revert a; refine (?_ : WC _ _ _ _ _ _)
                        cases m440 with
                        | zero => rw [F_spec_l14Draw_L2_z] at hF; cases hF
                        | succ m440 =>
                          rw [F_spec_l14Draw_L2_s] at hF
                          refine WC.seq ?_
                          refine WC.seq ?_
                          refine WC.region ?_
                          refine TL.yld rfl rfl (yld_move rfl rfl) ?_
                          refine TL.yld rfl rfl (yld_len_own (c := C_Clock) rfl Tryd.underlying26 rfl hs435) ?_
                          refine TL.yld rfl rfl (yld_lss rfl rfl rfl) ?_
                          refine TL.done ?_
                          refine NX.seq ?_
                          refine WC.cond rfl ?_ ?_
                          · intro hc442
                            replace hF := bif_t hc442 hF
                            refine WC.skip' ?_
                            refine NX.seq ?_
                            refine WC.block ?_
                            refine WC.seq ?_
                            refine WC.region ?_
                            refine TL.yld rfl rfl (yld_move rfl rfl) ?_
                            obtain ⟨x443, hy444, hF⟩ := bsome hF
                            refine TL.ye rfl rfl (ye_index_own (c := C_Clock) rfl Tryd.underlying26 cn_75 rfl rfl hs435 hy444) ?_
                            rintro _ ⟨g445, us447, rfl, hg446, hr448, hcl449⟩
                            have hr448r := hr448
                            obtain rfl := C_Clock_open hr448
                            refine TL.yld rfl rfl (yld_loadN (us := [.string x443.Name, .int .i64 x443.Place, .int .i64 x443.Period, .int .i64 x443.RiseAt, .int .i64 x443.FallAt, .int .i64 x443.Source, .int .i64 x443.Divide, .bool x443.Invert, .int .i64 x443.EarlyLatency, .int .i64 x443.LateLatency, .int .i64 x443.Uncertainty]) rfl ag_75 rfl hcl449 cn_75) ?_
                            refine TL.eff rfl rfl (eff_alloc rfl zn_75) ?_
                            rintro _ w451 ⟨b450, rfl, hn452⟩
                            obtain ⟨hn452e, hn452s, hn452x, hb453⟩ := hn452
                            have hb453 : Box w451 b450 [.string ByteArray.empty, .int .i64 0, .int .i64 0, .int .i64 0, .int .i64 0, .int .i64 0, .int .i64 0, .bool false, .int .i64 0, .int .i64 0, .int .i64 0] 75 := hb453
                            have he455 : But (pB b0_) w w451 := But.ext he432 hn452x
                            have hb437 := Box.ext hb437 hn452x
                            have hs438 := slRep.old hs438 hn452x (by omega)
                            have hs435 := ownR.ext hs435 hn452x
                            have hz456 := (hn452x).size
                            have hlo454 : w.heap.size ≤ b450 := by rw [hn452e]; exact (he432).size
                            refine TL.eff rfl rfl (eff_store rfl rfl rfl hb453 cn_75 rfl rfl) ?_
                            rintro _ w457 ⟨hu458, hb459⟩
                            have he460 : But (pB b0_) w w457 := But.upd he455 hu458 (Or.inr (by omega))
                            have hb437 := Box.upd hb437 hu458 (by omega)
                            have hs438 := slRep.upd hs438 hu458 (by omega)
                            have hs435 := ownR.upd hs435 hu458 (fun g hg => by have := hbd436 g hg; omega)
                            have hz461 := (hu458).size
                            have hb453 : Box w457 b450 [.string x443.Name, .int .i64 x443.Place, .int .i64 x443.Period, .int .i64 x443.RiseAt, .int .i64 x443.FallAt, .int .i64 x443.Source, .int .i64 x443.Divide, .bool x443.Invert, .int .i64 x443.EarlyLatency, .int .i64 x443.LateLatency, .int .i64 x443.Uncertainty] 75 := hb459
                            refine TL.done ?_
                            refine NX.seq ?_
                            refine WC.seq ?_
                            refine WC.region ?_
                            refine TL.yld rfl rfl (yld_move rfl rfl) ?_
                            refine TL.yld rfl rfl (yld_len_own (c := C_Clock) rfl Tryd.underlying26 rfl hs435) ?_
                            obtain ⟨r462, hr463, hF⟩ := bsome hF
                            refine TL.eff rfl rfl (eff_call rfl gf_133 rfl (W_spec_l01Number hr463)) ?_
                            rintro _ w464 ⟨rfl, hx465⟩
                            have he466 : But (pB b0_) w w464 := But.ext he460 hx465
                            have hb437 := Box.ext hb437 hx465
                            have hb453 := Box.ext hb453 hx465
                            have hs438 := slRep.old hs438 hx465 (by omega)
                            have hs435 := ownR.ext hs435 hx465
                            have hz467 := (hx465).size
                            obtain ⟨t468, ht469, hF⟩ := bsome hF
                            refine TL.yld rfl rfl (yld_cat rfl rfl rfl ht469) ?_
                            refine TL.yld rfl rfl (yld_fieldAddr rfl fo_75_0 rfl) ?_
                            refine TL.eff rfl rfl (eff_store rfl rfl rfl hb453 cn_9 rfl rfl) ?_
                            rintro _ w470 ⟨hu471, hb472⟩
                            have he473 : But (pB b0_) w w470 := But.upd he466 hu471 (Or.inr (by omega))
                            have hb437 := Box.upd hb437 hu471 (by omega)
                            have hs438 := slRep.upd hs438 hu471 (by omega)
                            have hs435 := ownR.upd hs435 hu471 (fun g hg => by have := hbd436 g hg; omega)
                            have hz474 := (hu471).size
                            have hb453 : Box w470 b450 [.string t468, .int .i64 x443.Place, .int .i64 x443.Period, .int .i64 x443.RiseAt, .int .i64 x443.FallAt, .int .i64 x443.Source, .int .i64 x443.Divide, .bool x443.Invert, .int .i64 x443.EarlyLatency, .int .i64 x443.LateLatency, .int .i64 x443.Uncertainty] 75 := hb472
                            refine TL.done ?_
                            refine NX.seq ?_
                            refine WC.region ?_
                            refine TL.yld rfl rfl (yld_move rfl rfl) ?_
                            refine TL.yld rfl rfl (yld_loadN (us := [.string t468, .int .i64 x443.Place, .int .i64 x443.Period, .int .i64 x443.RiseAt, .int .i64 x443.FallAt, .int .i64 x443.Source, .int .i64 x443.Divide, .bool x443.Invert, .int .i64 x443.EarlyLatency, .int .i64 x443.LateLatency, .int .i64 x443.Uncertainty]) rfl ag_75 rfl (Box.cells hb453) cn_75) ?_
                            refine TL.eff rfl rfl (eff_buildSlice (c := C_Clock) (xs := [(S_Clock.mk t468 x443.Place x443.Period x443.RiseAt x443.FallAt x443.Source x443.Divide x443.Invert x443.EarlyLatency x443.LateLatency x443.Uncertainty)]) (S := (Iv 0 0)) (uss := [(0, [.string t468, .int .i64 x443.Place, .int .i64 x443.Period, .int .i64 x443.RiseAt, .int .i64 x443.FallAt, .int .i64 x443.Source, .int .i64 x443.Divide, .bool x443.Invert, .int .i64 x443.EarlyLatency, .int .i64 x443.LateLatency, .int .i64 x443.Uncertainty])]) (out := [.string t468, .int .i64 x443.Place, .int .i64 x443.Period, .int .i64 x443.RiseAt, .int .i64 x443.FallAt, .int .i64 x443.Source, .int .i64 x443.Divide, .bool x443.Invert, .int .i64 x443.EarlyLatency, .int .i64 x443.LateLatency, .int .i64 x443.Uncertainty]) rfl Tryd.underlying26 in_75 rfl rfl (fillL_all [[.string t468, .int .i64 x443.Place, .int .i64 x443.Period, .int .i64 x443.RiseAt, .int .i64 x443.FallAt, .int .i64 x443.Source, .int .i64 x443.Divide, .bool x443.Invert, .int .i64 x443.EarlyLatency, .int .i64 x443.LateLatency, .int .i64 x443.Uncertainty]] rfl rfl rfl) rfl rfl rfl rfl (one_rep (uss := [[.string t468, .int .i64 x443.Place, .int .i64 x443.Period, .int .i64 x443.RiseAt, .int .i64 x443.FallAt, .int .i64 x443.Source, .int .i64 x443.Divide, .bool x443.Invert, .int .i64 x443.EarlyLatency, .int .i64 x443.LateLatency, .int .i64 x443.Uncertainty]]) (show reps _ _ _ _ _ from ⟨C_Clock_mk, trivial⟩) rfl) (fun k h => by have := h.2; omega) rfl) ?_
                            rintro v475 w476 ⟨g477, hv478, hg479, hz480, hx481, hs482⟩
                            have he483 : But (pB b0_) w w476 := But.ext he473 hx481
                            have hb437 := Box.ext hb437 hx481
                            have hb453 := Box.ext hb453 hx481
                            have hs438 := slRep.old hs438 hx481 (by omega)
                            have hs435 := ownR.ext hs435 hx481
                            have hz484 := (hx481).size
                            have hlo485 : w.heap.size ≤ g477 := by rw [hg479]; exact (he473).size
                            have hbd486 := bd_of hv478
                            clear hv478
                            obtain ⟨z488, ha489, hF⟩ := bsome hF
                            refine TL.eff rfl rfl (eff_appendF (c := C_Clock) rfl Tryd.underlying26 in_75 rfl rfl rfl rfl rfl hs435 (by omega) (ownR.slf hs482 (Nat.le_refl _) (Nat.le_refl _)) ha489) ?_
                            rintro v490 w491 ⟨hs492, hgr493⟩
                            have he495 : But (pB b0_) w w491 := But.grow he483 hgr493 (fun g hg => (Or.inr (by have := hbd436 g hg; omega)))
                            have hp496 : ∀ g, v490.ownBlock = some g → g ≠ b0_ := Grew.sepP (p := fun g => g ≠ b0_) hgr493 hp439 (fun g hg => by omega)
                            have hb437 := Grew.box hgr493 hb437 hp439
                            have hp497 : ∀ g, v490.ownBlock = some g → g ≠ b450 := Grew.sepP (p := fun g => g ≠ b450) hgr493 (fun g hg => by have := hbd436 g hg; omega) (fun g hg => by omega)
                            have hb453 := Grew.box hgr493 hb453 (fun g hg => by have := hbd436 g hg; omega)
                            have hp498 : ∀ g, v490.ownBlock = some g → g < lo3 ∨ hi4 ≤ g := Grew.sepP (p := fun g => g < lo3 ∨ hi4 ≤ g) hgr493 (fun g hg => by have := hbd436 g hg; omega) (fun g hg => by omega)
                            have hs438 := Grew.slr hgr493 hs438 (fun g hg => by have := hbd436 g hg; omega) (by omega)
                            have hp499 : ∀ g q, v434.ownBlock = some g → v475.ownBlock = some q → g ≠ q := (fun g q hg hq => by have := hbd436 g hg; have := hbd486 q hq; omega)
                            have hp500 : ∀ g q, v490.ownBlock = some g → v475.ownBlock = some q → g ≠ q := fun g q hg hq => Grew.sepP (p := fun g => ∀ q, v475.ownBlock = some q → g ≠ q) hgr493 (fun g hg q hq => (hp499) g q hg hq) (fun g hg q hq => by have := hbd486 q hq; omega) g hg q hq
                            have hs482 := Grew.ownF hgr493 hs482 hp499
                            have hz501 := (hgr493).1.size
                            have hbd502 : ∀ g, v490.ownBlock = some g → g10 ≤ g ∧ g < w491.heap.size := Grew.bd hgr493 hs492 (fun g hg => ⟨by have := hbd436 g hg; omega, (hbd436 g hg).2⟩) (by omega) (by omega)
                            refine TL.yld rfl rfl (yld_assign rfl rfl) ?_
                            refine TL.done ?_
                            refine NX.blk_n ?_
                            refine NX.then_n ?_
                            intro a hK; exact ⟨m440, Nat.lt_succ_self m440, z488, v490, hK.weaken ⟨rfl, trivial⟩, he495, (by omega), hb437, hs438, hs492, (fun g hg => by have := hbd502 g hg; omega), hp496, hF⟩
                          · intro hc503
                            replace hF := bif_f hc503 hF
                            refine WC.exit' ?_
                            refine NX.then_e ?_
                            refine NX.then_e ?_
                            refine NX.blk_hit ?_
                            refine NX.blk_n ?_
                            refine NX.seq ?_
                            refine WC.seq ?_
                            refine WC.region ?_
                            refine TL.yld rfl rfl (yld_move rfl rfl) ?_
                            refine TL.yld rfl rfl (yld_assign rfl rfl) ?_
                            refine TL.done ?_
                            refine NX.seq ?_
                            refine WC.ret' ?_
                            obtain rfl := Option.some.inj hF
                            exact NX.end (rs := [.tmp 2]) (vs := [v434]) rfl ⟨rfl, trivial⟩ ⟨_, rfl, _, rfl, ownR.base hs435 (by omega), hb437, he432⟩
                    · intro hc504
                      replace hF := bif_f hc504 hF
                      refine WC.skip' ?_
                      refine NX.blk_n ?_
                      refine NX.seq ?_
                      refine WC.seq ?_
                      refine WC.region ?_
                      refine TL.yld rfl rfl (yld_move rfl rfl) ?_
                      refine TL.yld rfl rfl (yld_assign rfl rfl) ?_
                      refine TL.done ?_
                      refine NX.seq ?_
                      refine WC.ret' ?_
                      obtain rfl := Option.some.inj hF
                      exact NX.end (rs := [.tmp 2]) (vs := [v32]) rfl ⟨rfl, trivial⟩ ⟨_, rfl, _, rfl, ownR.base hs33 (by omega), hb305, he306⟩

-- loop.example/g00861/spec.l14DrawIndex
def F_spec_l14DrawIndex (n : Nat) (a0_s : S_l01Source) (a1_list : List S_Clock) : Option (Int × S_l01Source) := (Option.bind (F_spec_l01Next n a0_s 20) fun r14 => (bif (r14.1 == 0) then (Option.bind (F_spec_l01Next n ((S_l01Source.mk a0_s.code_ r14.2.at_ r14.2.seed_)) 2) fun r35 => (Option.bind (getI ([(-1), (a1_list.length : Int)]) r35.1) fun x43 => (some (x43, (S_l01Source.mk a0_s.code_ r35.2.at_ r35.2.seed_))))) else (Option.bind (F_spec_l01Next n ((S_l01Source.mk a0_s.code_ r14.2.at_ r14.2.seed_)) ((a1_list.length : Int))) fun r51 => (some (r51.1, (S_l01Source.mk a0_s.code_ r51.2.at_ r51.2.seed_))))))
set_option maxHeartbeats 40000000 in
theorem W_spec_l14DrawIndex {n : Nat} {a0_s : S_l01Source} {a1_list : List S_Clock} {r : Int × S_l01Source} {w : World} {v1 : Value} {lo3 hi4 : Nat} {b0_ : Nat} {v6 : Value} {lo8 hi9 : Nat} (hF : F_spec_l14DrawIndex n a0_s a1_list = some r) (hb5 : Box w b0_ [v1, .int .i64 a0_s.at_, .int .i64 a0_s.seed_] 127) (ha2 : slRep (cInt .u8) w (Iv lo3 hi4) a0_s.code_ v1) (hh10 : hi4 ≤ w.heap.size) (hh11 : b0_ < lo3 ∨ hi4 ≤ b0_) (ha7 : slRep C_Clock w (Iv lo8 hi9) a1_list v6) (hh12 : hi9 ≤ w.heap.size) (hh13 : b0_ < lo8 ∨ hi9 ≤ b0_) :
    Calls Tryd.prog 99 [.pointer (some ⟨b0_, 0, none⟩), v6].toArray w (Ret fun u w2 => u = .int .i64 r.1 ∧ Box w2 b0_ [v1, .int .i64 r.2.at_, .int .i64 r.2.seed_] 127 ∧ But (pB b0_) w w2) := by
  refine calls_of Tryd.func99 rfl Tryd.ntmps99 ?_
  have he0 : But (pB b0_) w w := But.refl _ w
  have := Box.lt hb5
  unfold F_spec_l14DrawIndex at hF
  refine WC.seq ?_
  refine WC.region ?_
  refine TL.yld rfl rfl (yld_assign rfl rfl) ?_
  refine TL.done ?_
  refine NX.seq ?_
  refine WC.seq ?_
  refine WC.seq ?_
  refine WC.region ?_
  refine TL.yld rfl rfl (yld_move rfl rfl) ?_
  obtain ⟨r14, hr15, hF⟩ := bsome hF
  refine TL.eff rfl rfl (eff_call rfl gf_71 rfl (W_spec_l01Next hr15 hb5 ha2 (by omega) (by omega))) ?_
  rintro _ w16 ⟨rfl, hb18, hx17⟩
  have he19 : But (pB b0_) w w16 := But.but he0 hx17 (all_pB (Or.inl rfl))
  have ha7 := slRep.but ha7 hx17 (all_pB (by omega)) (by omega)
  have ha2 := slRep.but ha2 hx17 (all_pB (by omega)) (by omega)
  have hz20 := (hx17).size
  refine TL.yld rfl rfl (yld_eql rfl rfl rfl) ?_
  refine TL.done ?_
  refine NX.seq ?_
  refine WC.cond rfl ?_ ?_
  · intro hc21
    replace hF := bif_t hc21 hF
    refine WC.seq ?_
    refine WC.region ?_
    refine TL.yld rfl rfl (yld_move rfl rfl) ?_
    refine TL.yld rfl rfl (ye_len (c := C_Clock) rfl Tryd.underlying26 rfl ha7) ?_
    refine TL.eff rfl rfl (eff_buildSlice (c := (cInt .i64)) (xs := [(-1), (a1_list.length : Int)]) (S := (Iv 0 0)) (uss := [(0, [.int .i64 (-1)]), (1, [.int .i64 ((a1_list.length : Int))])]) (out := [.int .i64 (-1), .int .i64 ((a1_list.length : Int))]) rfl Tryd.underlying42 in_2 rfl rfl (fillL_all [[.int .i64 (-1)], [.int .i64 ((a1_list.length : Int))]] rfl rfl rfl) rfl rfl rfl rfl (one_rep (uss := [[.int .i64 (-1)], [.int .i64 ((a1_list.length : Int))]]) (show reps _ _ _ _ _ from ⟨rfl, rfl, trivial⟩) rfl) (fun k h => by have := h.2; omega) rfl) ?_
    rintro v22 w23 ⟨g24, hv25, hg26, hz27, hx28, hs29⟩
    have he30 : But (pB b0_) w w23 := But.ext he19 hx28
    have hb18 := Box.ext hb18 hx28
    have ha7 := slRep.old ha7 hx28 (by omega)
    have ha2 := slRep.old ha2 hx28 (by omega)
    have hz31 := (hx28).size
    have hlo32 : w.heap.size ≤ g24 := by rw [hg26]; exact (he19).size
    have hbd33 := bd_of hv25
    clear hv25
    refine TL.yld rfl rfl (yld_move rfl rfl) ?_
    obtain ⟨r35, hr36, hF⟩ := bsome hF
    refine TL.eff rfl rfl (eff_call rfl gf_71 rfl (W_spec_l01Next hr36 hb18 ha2 (by omega) (by omega))) ?_
    rintro _ w37 ⟨rfl, hb39, hx38⟩
    have he40 : But (pB b0_) w w37 := But.but he30 hx38 (all_pB (Or.inl rfl))
    have ha7 := slRep.but ha7 hx38 (all_pB (by omega)) (by omega)
    have ha2 := slRep.but ha2 hx38 (all_pB (by omega)) (by omega)
    have hp41 : ∀ g, v22.ownBlock = some g → g ≠ b0_ := (fun g hg => by have := hbd33 g hg; omega)
    have hs29 := ownR.butF hs29 hx38 (all_pB (fun g hg e => hp41 g hg e.symm))
    have hz42 := (hx38).size
    obtain ⟨x43, hy44, hF⟩ := bsome hF
    refine TL.ye rfl rfl (ye_index_own (c := (cInt .i64)) rfl Tryd.underlying42 cn_2 rfl rfl hs29 hy44) ?_
    rintro _ ⟨g45, us47, rfl, hg46, hr48, hcl49⟩
    have hr48r := hr48
    obtain rfl := hr48
    refine TL.yld rfl rfl (yld_load1 0 rfl ag_2 rfl hcl49 rfl rfl) ?_
    refine TL.yld rfl rfl (yld_assign rfl rfl) ?_
    refine TL.done ?_
    refine NX.seq ?_
    refine WC.ret' ?_
    refine NX.then_r ?_
    obtain rfl := Option.some.inj hF
    exact NX.end (rs := [.tmp 4]) (vs := [.int .i64 x43]) rfl ⟨rfl, trivial⟩ ⟨_, rfl, rfl, hb39, he40⟩
  · intro hc50
    replace hF := bif_f hc50 hF
    refine WC.skip' ?_
    refine NX.seq ?_
    refine WC.seq ?_
    refine WC.region ?_
    refine TL.yld rfl rfl (yld_move rfl rfl) ?_
    refine TL.yld rfl rfl (yld_move rfl rfl) ?_
    refine TL.yld rfl rfl (ye_len (c := C_Clock) rfl Tryd.underlying26 rfl ha7) ?_
    obtain ⟨r51, hr52, hF⟩ := bsome hF
    refine TL.eff rfl rfl (eff_call rfl gf_71 rfl (W_spec_l01Next hr52 hb18 ha2 (by omega) (by omega))) ?_
    rintro _ w53 ⟨rfl, hb55, hx54⟩
    have he56 : But (pB b0_) w w53 := But.but he19 hx54 (all_pB (Or.inl rfl))
    have ha7 := slRep.but ha7 hx54 (all_pB (by omega)) (by omega)
    have ha2 := slRep.but ha2 hx54 (all_pB (by omega)) (by omega)
    have hz57 := (hx54).size
    refine TL.yld rfl rfl (yld_assign rfl rfl) ?_
    refine TL.done ?_
    refine NX.seq ?_
    refine WC.ret' ?_
    obtain rfl := Option.some.inj hF
    exact NX.end (rs := [.tmp 4]) (vs := [.int .i64 r51.1]) rfl ⟨rfl, trivial⟩ ⟨_, rfl, rfl, hb55, he56⟩

-- loop.example/g00861/spec.l14DrawEdge
def F_spec_l14DrawEdge (n : Nat) (a0_s : S_l01Source) : Option (Int × S_l01Source) := (Option.bind (F_spec_l01Next n a0_s 24) fun r8 => (bif (r8.1 == 0) then (Option.bind (F_spec_l01Next n ((S_l01Source.mk a0_s.code_ r8.2.at_ r8.2.seed_)) 2) fun r16 => (some (IntKind.wrap IntKind.i64 ((IntKind.wrap IntKind.i64 (3 * r16.1)) - 1), (S_l01Source.mk a0_s.code_ r16.2.at_ r16.2.seed_)))) else (Option.bind (F_spec_l01Next n ((S_l01Source.mk a0_s.code_ r8.2.at_ r8.2.seed_)) 2) fun r24 => (some (r24.1, (S_l01Source.mk a0_s.code_ r24.2.at_ r24.2.seed_))))))
set_option maxHeartbeats 40000000 in
theorem W_spec_l14DrawEdge {n : Nat} {a0_s : S_l01Source} {r : Int × S_l01Source} {w : World} {v1 : Value} {lo3 hi4 : Nat} {b0_ : Nat} (hF : F_spec_l14DrawEdge n a0_s = some r) (hb5 : Box w b0_ [v1, .int .i64 a0_s.at_, .int .i64 a0_s.seed_] 127) (ha2 : slRep (cInt .u8) w (Iv lo3 hi4) a0_s.code_ v1) (hh6 : hi4 ≤ w.heap.size) (hh7 : b0_ < lo3 ∨ hi4 ≤ b0_) :
    Calls Tryd.prog 100 [.pointer (some ⟨b0_, 0, none⟩)].toArray w (Ret fun u w2 => u = .int .i64 r.1 ∧ Box w2 b0_ [v1, .int .i64 r.2.at_, .int .i64 r.2.seed_] 127 ∧ But (pB b0_) w w2) := by
  refine calls_of Tryd.func100 rfl Tryd.ntmps100 ?_
  have he0 : But (pB b0_) w w := But.refl _ w
  have := Box.lt hb5
  unfold F_spec_l14DrawEdge at hF
  refine WC.seq ?_
  refine WC.region ?_
  refine TL.yld rfl rfl (yld_assign rfl rfl) ?_
  refine TL.done ?_
  refine NX.seq ?_
  refine WC.seq ?_
  refine WC.seq ?_
  refine WC.region ?_
  refine TL.yld rfl rfl (yld_move rfl rfl) ?_
  obtain ⟨r8, hr9, hF⟩ := bsome hF
  refine TL.eff rfl rfl (eff_call rfl gf_71 rfl (W_spec_l01Next hr9 hb5 ha2 (by omega) (by omega))) ?_
  rintro _ w10 ⟨rfl, hb12, hx11⟩
  have he13 : But (pB b0_) w w10 := But.but he0 hx11 (all_pB (Or.inl rfl))
  have ha2 := slRep.but ha2 hx11 (all_pB (by omega)) (by omega)
  have hz14 := (hx11).size
  refine TL.yld rfl rfl (yld_eql rfl rfl rfl) ?_
  refine TL.done ?_
  refine NX.seq ?_
  refine WC.cond rfl ?_ ?_
  · intro hc15
    replace hF := bif_t hc15 hF
    refine WC.seq ?_
    refine WC.region ?_
    refine TL.yld rfl rfl (yld_move rfl rfl) ?_
    obtain ⟨r16, hr17, hF⟩ := bsome hF
    refine TL.eff rfl rfl (eff_call rfl gf_71 rfl (W_spec_l01Next hr17 hb12 ha2 (by omega) (by omega))) ?_
    rintro _ w18 ⟨rfl, hb20, hx19⟩
    have he21 : But (pB b0_) w w18 := But.but he13 hx19 (all_pB (Or.inl rfl))
    have ha2 := slRep.but ha2 hx19 (all_pB (by omega)) (by omega)
    have hz22 := (hx19).size
    refine TL.yld rfl rfl (yld_mul rfl rfl rfl) ?_
    refine TL.yld rfl rfl (yld_sub rfl rfl rfl) ?_
    refine TL.yld rfl rfl (yld_assign rfl rfl) ?_
    refine TL.done ?_
    refine NX.seq ?_
    refine WC.ret' ?_
    refine NX.then_r ?_
    obtain rfl := Option.some.inj hF
    exact NX.end (rs := [.tmp 2]) (vs := [.int .i64 (IntKind.wrap IntKind.i64 ((IntKind.wrap IntKind.i64 (3 * r16.1)) - 1))]) rfl ⟨rfl, trivial⟩ ⟨_, rfl, rfl, hb20, he21⟩
  · intro hc23
    replace hF := bif_f hc23 hF
    refine WC.skip' ?_
    refine NX.seq ?_
    refine WC.seq ?_
    refine WC.region ?_
    refine TL.yld rfl rfl (yld_move rfl rfl) ?_
    obtain ⟨r24, hr25, hF⟩ := bsome hF
    refine TL.eff rfl rfl (eff_call rfl gf_71 rfl (W_spec_l01Next hr25 hb12 ha2 (by omega) (by omega))) ?_
    rintro _ w26 ⟨rfl, hb28, hx27⟩
    have he29 : But (pB b0_) w w26 := But.but he13 hx27 (all_pB (Or.inl rfl))
    have ha2 := slRep.but ha2 hx27 (all_pB (by omega)) (by omega)
    have hz30 := (hx27).size
    refine TL.yld rfl rfl (yld_assign rfl rfl) ?_
    refine TL.done ?_
    refine NX.seq ?_
    refine WC.ret' ?_
    obtain rfl := Option.some.inj hF
    exact NX.end (rs := [.tmp 2]) (vs := [.int .i64 r24.1]) rfl ⟨rfl, trivial⟩ ⟨_, rfl, rfl, hb28, he29⟩

-- loop.example/g00861/spec.l15DrawPair
def F_spec_l15DrawPair (n : Nat) (a0_s : S_l01Source) : Option ((List S_Clock) × Int × Int × Int × Int × S_l01Source) := (Option.bind (F_spec_l14Draw n a0_s) fun r8 => (Option.bind (F_spec_l14DrawIndex n ((S_l01Source.mk a0_s.code_ r8.2.at_ r8.2.seed_)) r8.1) fun r19 => (Option.bind (F_spec_l14DrawIndex n ((S_l01Source.mk a0_s.code_ r19.2.at_ r19.2.seed_)) r8.1) fun r27 => (Option.bind (bif decide ((r8.1.length : Int) > 1) then (Option.bind (F_spec_l01Next n ((S_l01Source.mk a0_s.code_ r27.2.at_ r27.2.seed_)) 2) fun r35 => (some ((r35.1 == 0), r35.2.at_, r35.2.seed_))) else (some (false, r27.2.at_, r27.2.seed_))) fun c35 => (bif c35.1 then (Option.bind (getI r8.1 0) fun x53 => (Option.bind (F_spec_l01Next n ((S_l01Source.mk a0_s.code_ c35.2.1 c35.2.2)) 24) fun r65 => (Option.bind (getI ((r8.1.set (0 : Int).toNat ((S_Clock.mk x53.Name x53.Place 24 x53.RiseAt x53.FallAt x53.Source x53.Divide x53.Invert x53.EarlyLatency x53.LateLatency x53.Uncertainty)))) 0) fun x73 => (Option.bind (getI ((((r8.1.set (0 : Int).toNat ((S_Clock.mk x53.Name x53.Place 24 x53.RiseAt x53.FallAt x53.Source x53.Divide x53.Invert x53.EarlyLatency x53.LateLatency x53.Uncertainty)))).set (0 : Int).toNat ((S_Clock.mk x73.Name x73.Place x73.Period r65.1 x73.FallAt x73.Source x73.Divide x73.Invert x73.EarlyLatency x73.LateLatency x73.Uncertainty)))) 0) fun x85 => (Option.bind (F_spec_l01Next n ((S_l01Source.mk a0_s.code_ r65.2.at_ r65.2.seed_)) 23) fun r92 => (Option.bind (getI ((((r8.1.set (0 : Int).toNat ((S_Clock.mk x53.Name x53.Place 24 x53.RiseAt x53.FallAt x53.Source x53.Divide x53.Invert x53.EarlyLatency x53.LateLatency x53.Uncertainty)))).set (0 : Int).toNat ((S_Clock.mk x73.Name x73.Place x73.Period r65.1 x73.FallAt x73.Source x73.Divide x73.Invert x73.EarlyLatency x73.LateLatency x73.Uncertainty)))) 0) fun x100 => (Option.bind (F_spec_l01Next n ((S_l01Source.mk a0_s.code_ r92.2.at_ r92.2.seed_)) 24) fun r139 => (bif (r139.1 == 0) then (Option.bind (F_spec_l01Next n ((S_l01Source.mk a0_s.code_ r139.2.at_ r139.2.seed_)) 4) fun r161 => (Option.bind (F_spec_l14DrawEdge n ((S_l01Source.mk a0_s.code_ r161.2.at_ r161.2.seed_))) fun r170 => (Option.bind (F_spec_l14DrawEdge n ((S_l01Source.mk a0_s.code_ r170.2.at_ r170.2.seed_))) fun r179 => (some ([(S_Clock.mk ((ByteArray.mk #[97])) 0 2 0 1 (-1) 1 false 0 0 0), (S_Clock.mk ((ByteArray.mk #[98])) 0 0 0 0 0 8 false 0 0 0), (S_Clock.mk ((ByteArray.mk #[99])) 0 0 0 0 1 8 false 0 0 0), (S_Clock.mk ((ByteArray.mk #[100])) 0 0 0 0 2 7 false 0 0 0)], 0, r170.1, r161.1, r179.1, (S_l01Source.mk a0_s.code_ r179.2.at_ r179.2.seed_)))))) else (Option.bind (F_spec_l14DrawEdge n ((S_l01Source.mk a0_s.code_ r139.2.at_ r139.2.seed_))) fun r189 => (Option.bind (F_spec_l14DrawEdge n ((S_l01Source.mk a0_s.code_ r189.2.at_ r189.2.seed_))) fun r197 => (some ((((((r8.1.set (0 : Int).toNat ((S_Clock.mk x53.Name x53.Place 24 x53.RiseAt x53.FallAt x53.Source x53.Divide x53.Invert x53.EarlyLatency x53.LateLatency x53.Uncertainty)))).set (0 : Int).toNat ((S_Clock.mk x73.Name x73.Place x73.Period r65.1 x73.FallAt x73.Source x73.Divide x73.Invert x73.EarlyLatency x73.LateLatency x73.Uncertainty)))).set (0 : Int).toNat ((S_Clock.mk x100.Name x100.Place x100.Period x100.RiseAt (Int.tmod (IntKind.wrap IntKind.i64 ((IntKind.wrap IntKind.i64 (x85.RiseAt + 1)) + r92.1)) 24) x100.Source x100.Divide x100.Invert x100.EarlyLatency x100.LateLatency x100.Uncertainty))), r19.1, r189.1, r27.1, r197.1, (S_l01Source.mk a0_s.code_ r197.2.at_ r197.2.seed_))))))))))))) else (Option.bind (F_spec_l01Next n ((S_l01Source.mk a0_s.code_ c35.2.1 c35.2.2)) 24) fun r206 => (bif (r206.1 == 0) then (Option.bind (F_spec_l01Next n ((S_l01Source.mk a0_s.code_ r206.2.at_ r206.2.seed_)) 4) fun r228 => (Option.bind (F_spec_l14DrawEdge n ((S_l01Source.mk a0_s.code_ r228.2.at_ r228.2.seed_))) fun r237 => (Option.bind (F_spec_l14DrawEdge n ((S_l01Source.mk a0_s.code_ r237.2.at_ r237.2.seed_))) fun r246 => (some ([(S_Clock.mk ((ByteArray.mk #[97])) 0 2 0 1 (-1) 1 false 0 0 0), (S_Clock.mk ((ByteArray.mk #[98])) 0 0 0 0 0 8 false 0 0 0), (S_Clock.mk ((ByteArray.mk #[99])) 0 0 0 0 1 8 false 0 0 0), (S_Clock.mk ((ByteArray.mk #[100])) 0 0 0 0 2 7 false 0 0 0)], 0, r237.1, r228.1, r246.1, (S_l01Source.mk a0_s.code_ r246.2.at_ r246.2.seed_)))))) else (Option.bind (F_spec_l14DrawEdge n ((S_l01Source.mk a0_s.code_ r206.2.at_ r206.2.seed_))) fun r256 => (Option.bind (F_spec_l14DrawEdge n ((S_l01Source.mk a0_s.code_ r256.2.at_ r256.2.seed_))) fun r264 => (some (r8.1, r19.1, r256.1, r27.1, r264.1, (S_l01Source.mk a0_s.code_ r264.2.at_ r264.2.seed_))))))))))))
set_option maxHeartbeats 40000000 in
theorem W_spec_l15DrawPair {n : Nat} {a0_s : S_l01Source} {r : (List S_Clock) × Int × Int × Int × Int × S_l01Source} {w : World} {v1 : Value} {lo3 hi4 : Nat} {b0_ : Nat} (hF : F_spec_l15DrawPair n a0_s = some r) (hb5 : Box w b0_ [v1, .int .i64 a0_s.at_, .int .i64 a0_s.seed_] 127) (ha2 : slRep (cInt .u8) w (Iv lo3 hi4) a0_s.code_ v1) (hh6 : hi4 ≤ w.heap.size) (hh7 : b0_ < lo3 ∨ hi4 ≤ b0_) :
    Calls Tryd.prog 58 [.pointer (some ⟨b0_, 0, none⟩)].toArray w (Ret fun u w2 => ∃ v0_0, u = .tuple #[v0_0, .int .i64 r.2.1, .int .i64 r.2.2.1, .int .i64 r.2.2.2.1, .int .i64 r.2.2.2.2.1] ∧ ownR C_Clock w2 w.heap.size (Iv 0 0) 75 r.1 v0_0 ∧ Box w2 b0_ [v1, .int .i64 r.2.2.2.2.2.at_, .int .i64 r.2.2.2.2.2.seed_] 127 ∧ But (pB b0_) w w2) := by
  refine calls_of Tryd.func58 rfl Tryd.ntmps58 ?_
  have he0 : But (pB b0_) w w := But.refl _ w
  have := Box.lt hb5
  unfold F_spec_l15DrawPair at hF
  refine WC.seq ?_
  refine WC.region ?_
  refine TL.yld rfl rfl (yld_assign rfl rfl) ?_
  refine TL.yld rfl rfl (yld_assign rfl rfl) ?_
  refine TL.yld rfl rfl (yld_assign rfl rfl) ?_
  refine TL.yld rfl rfl (yld_assign rfl rfl) ?_
  refine TL.yld rfl rfl (yld_assign rfl rfl) ?_
  refine TL.done ?_
  refine NX.seq ?_
  refine WC.seq ?_
  refine WC.region ?_
  refine TL.yld rfl rfl (yld_move rfl rfl) ?_
  obtain ⟨r8, hr9, hF⟩ := bsome hF
  refine TL.eff rfl rfl (eff_call rfl gf_98 rfl (W_spec_l14Draw hr9 hb5 ha2 (by omega) (by omega))) ?_
  rintro v12 w10 ⟨_, rfl, hs13, hb16, hx11⟩
  have he17 : But (pB b0_) w w10 := But.but he0 hx11 (all_pB (Or.inl rfl))
  have ha2 := slRep.but ha2 hx11 (all_pB (by omega)) (by omega)
  have hz18 := (hx11).size
  have hbd15 := ownR.blk hs13
  refine TL.yld rfl rfl (yld_assign rfl rfl) ?_
  refine TL.done ?_
  refine NX.seq ?_
  refine WC.seq ?_
  refine WC.region ?_
  refine TL.yld rfl rfl (yld_move rfl rfl) ?_
  refine TL.yld rfl rfl (yld_move rfl rfl) ?_
  obtain ⟨r19, hr20, hF⟩ := bsome hF
  refine TL.eff rfl rfl (eff_call rfl gf_99 rfl (W_spec_l14DrawIndex hr20 hb16 ha2 (by omega) (by omega) (ownR.slb hs13 hbd15) (by omega) (by have := trivial; omega))) ?_
  rintro _ w21 ⟨rfl, hb23, hx22⟩
  have he24 : But (pB b0_) w w21 := But.but he17 hx22 (all_pB (Or.inl rfl))
  have ha2 := slRep.but ha2 hx22 (all_pB (by omega)) (by omega)
  have hp25 : ∀ g, v12.ownBlock = some g → g ≠ b0_ := (fun g hg => by have := hbd15 g hg; omega)
  have hs13 := ownR.butF hs13 hx22 (all_pB (fun g hg e => hp25 g hg e.symm))
  have hz26 := (hx22).size
  refine TL.yld rfl rfl (yld_move rfl rfl) ?_
  refine TL.yld rfl rfl (yld_move rfl rfl) ?_
  obtain ⟨r27, hr28, hF⟩ := bsome hF
  refine TL.eff rfl rfl (eff_call rfl gf_99 rfl (W_spec_l14DrawIndex hr28 hb23 ha2 (by omega) (by omega) (ownR.slb hs13 hbd15) (by omega) (by have := trivial; omega))) ?_
  rintro _ w29 ⟨rfl, hb31, hx30⟩
  have he32 : But (pB b0_) w w29 := But.but he24 hx30 (all_pB (Or.inl rfl))
  have ha2 := slRep.but ha2 hx30 (all_pB (by omega)) (by omega)
  have hp33 : ∀ g, v12.ownBlock = some g → g ≠ b0_ := (fun g hg => by have := hbd15 g hg; omega)
  have hs13 := ownR.butF hs13 hx30 (all_pB (fun g hg e => hp33 g hg e.symm))
  have hz34 := (hx30).size
  refine TL.yld rfl rfl (yld_assign rfl rfl) ?_
  refine TL.yld rfl rfl (yld_assign rfl rfl) ?_
  refine TL.done ?_
  refine NX.seq ?_
  refine WC.seq ?_
  refine WC.seq ?_
  refine WC.region ?_
  refine TL.yld rfl rfl (yld_move rfl rfl) ?_
  refine TL.yld rfl rfl (yld_len_own (c := C_Clock) rfl Tryd.underlying26 rfl hs13) ?_
  refine TL.yld rfl rfl (yld_gtr rfl rfl rfl) ?_
  refine TL.yld rfl rfl (yld_move rfl rfl) ?_
  obtain ⟨c35, hb36, hF⟩ := bsome hF
  refine TL.cut 4 [(0, .pointer (some ⟨b0_, 0, none⟩)), (7, v12), (8, .int .i64 r19.1), (9, .int .i64 r27.1), (25, .bool c35.1)] (fun w' => But (pB b0_) w29 w' ∧ Box w' b0_ [v1, .int .i64 c35.2.1, .int .i64 c35.2.2] 127) ?_ ?_
  · rcases Bool.eq_false_or_eq_true (decide ((r8.1.length : Int) > 1)) with hg37 | hg37
    ·
      rw [hg37] at hb36; simp only [cond_true, cond_false] at hb36
      replace hF := hb36
      refine TL.gy (j := 3) (t := 21) rfl rfl rfl hg37 rfl (yld_move rfl rfl) ?_
      obtain ⟨r38, hr39, hF⟩ := bsome hF
      refine TL.ge (j := 3) (t := 21) rfl rfl rfl hg37 rfl (eff_call rfl gf_71 rfl (W_spec_l01Next hr39 hb31 ha2 (by omega) (by omega))) ?_
      rintro _ w40 ⟨rfl, hb42, hx41⟩
      have he43 : But (pB b0_) w w40 := But.but he32 hx41 (all_pB (Or.inl rfl))
      have ha2 := slRep.but ha2 hx41 (all_pB (by omega)) (by omega)
      have hp44 : ∀ g, v12.ownBlock = some g → g ≠ b0_ := (fun g hg => by have := hbd15 g hg; omega)
      have hs13 := ownR.butF hs13 hx41 (all_pB (fun g hg e => hp44 g hg e.symm))
      have hz45 := (hx41).size
      refine TL.gy (j := 3) (t := 21) rfl rfl rfl hg37 rfl (yld_eql rfl rfl rfl) ?_
      obtain rfl := Option.some.inj hF
      refine TL.yld rfl rfl (yld_pick_t rfl rfl hg37 rfl) ?_
      exact TL.nil fun a h => ⟨h.weaken ⟨rfl, rfl, rfl, rfl, rfl, trivial⟩, (But.but (But.refl _ _) hx41 (fun k q => Or.inl q)), hb42⟩
    ·
      rw [hg37] at hb36; simp only [cond_true, cond_false] at hb36
      refine TL.gnu (j := 3) (t := 21) rfl rfl rfl hg37 rfl ?_
      refine TL.gnu (j := 3) (t := 21) rfl rfl rfl hg37 rfl ?_
      refine TL.gnu (j := 3) (t := 21) rfl rfl rfl hg37 rfl ?_
      obtain rfl := Option.some.inj hb36
      refine TL.yld rfl rfl (yld_pick_f rfl rfl hg37 rfl) ?_
      exact TL.nil fun a h => ⟨h.weaken ⟨rfl, rfl, rfl, rfl, rfl, trivial⟩, (But.refl _ _), hb31⟩
  rintro w46 ⟨hx47, hb48⟩
  have he49 : But (pB b0_) w w46 := But.but he32 hx47 (all_pB (Or.inl rfl))
  have ha2 := slRep.but ha2 hx47 (all_pB (by omega)) (by omega)
  have hp50 : ∀ g, v12.ownBlock = some g → g ≠ b0_ := (fun g hg => by have := hbd15 g hg; omega)
  have hs13 := ownR.butF hs13 hx47 (all_pB (fun g hg e => hp50 g hg e.symm))
  have hz51 := (hx47).size
  refine TL.done ?_
  refine NX.seq ?_
  refine WC.cond rfl ?_ ?_
  · intro hc52
    replace hF := bif_t hc52 hF
    refine WC.seq ?_
    refine WC.region ?_
    refine TL.yld rfl rfl (yld_move rfl rfl) ?_
    obtain ⟨x53, hy54, hF⟩ := bsome hF
    refine TL.ye rfl rfl (ye_index_own (c := C_Clock) rfl Tryd.underlying26 cn_75 rfl rfl hs13 hy54) ?_
    rintro _ ⟨g55, us57, rfl, hg56, hr58, hcl59⟩
    have hr58r := hr58
    obtain rfl := C_Clock_open hr58
    refine TL.yld rfl rfl (yld_fieldAddr rfl fo_75_2 rfl) ?_
    refine TL.eff rfl rfl (eff_store_own (c := C_Clock) (us' := [.string x53.Name, .int .i64 x53.Place, .int .i64 24, .int .i64 x53.RiseAt, .int .i64 x53.FallAt, .int .i64 x53.Source, .int .i64 x53.Divide, .bool x53.Invert, .int .i64 x53.EarlyLatency, .int .i64 x53.LateLatency, .int .i64 x53.Uncertainty]) (y' := (S_Clock.mk x53.Name x53.Place 24 x53.RiseAt x53.FallAt x53.Source x53.Divide x53.Invert x53.EarlyLatency x53.LateLatency x53.Uncertainty)) 2 _ rfl rfl rfl hs13 hg56 hy54 rfl cn_2 rfl hr58r hcl59 rfl rfl C_Clock_mk (fun k h => absurd h.2 (Nat.not_lt_zero k))) ?_
    rintro _ w60 ⟨hu61, hs62⟩
    have he63 : But (pB b0_) w w60 := But.upd he49 hu61 (Or.inr (by have := hbd15 _ hg56; omega))
    have hb48 := Box.upd hb48 hu61 (by have := hbd15 _ hg56; omega)
    have ha2 := slRep.upd ha2 hu61 (by have := hbd15 _ hg56; omega)
    have hz64 := (hu61).size
    refine TL.done ?_
    refine NX.seq ?_
    refine WC.seq ?_
    refine WC.region ?_
    refine TL.yld rfl rfl (yld_move rfl rfl) ?_
    refine TL.yld rfl rfl (yld_move rfl rfl) ?_
    obtain ⟨r65, hr66, hF⟩ := bsome hF
    refine TL.eff rfl rfl (eff_call rfl gf_71 rfl (W_spec_l01Next hr66 hb48 ha2 (by omega) (by omega))) ?_
    rintro _ w67 ⟨rfl, hb69, hx68⟩
    have he70 : But (pB b0_) w w67 := But.but he63 hx68 (all_pB (Or.inl rfl))
    have ha2 := slRep.but ha2 hx68 (all_pB (by omega)) (by omega)
    have hp71 : ∀ g, v12.ownBlock = some g → g ≠ b0_ := (fun g hg => by have := hbd15 g hg; omega)
    have hs62 := ownR.butF hs62 hx68 (all_pB (fun g hg e => hp71 g hg e.symm))
    have hz72 := (hx68).size
    obtain ⟨x73, hy74, hF⟩ := bsome hF
    refine TL.ye rfl rfl (ye_index_own (c := C_Clock) rfl Tryd.underlying26 cn_75 rfl rfl hs62 hy74) ?_
    rintro _ ⟨g75, us77, rfl, hg76, hr78, hcl79⟩
    have hr78r := hr78
    obtain rfl := C_Clock_open hr78
    refine TL.yld rfl rfl (yld_fieldAddr rfl fo_75_3 rfl) ?_
    refine TL.eff rfl rfl (eff_store_own (c := C_Clock) (us' := [.string x73.Name, .int .i64 x73.Place, .int .i64 x73.Period, .int .i64 r65.1, .int .i64 x73.FallAt, .int .i64 x73.Source, .int .i64 x73.Divide, .bool x73.Invert, .int .i64 x73.EarlyLatency, .int .i64 x73.LateLatency, .int .i64 x73.Uncertainty]) (y' := (S_Clock.mk x73.Name x73.Place x73.Period r65.1 x73.FallAt x73.Source x73.Divide x73.Invert x73.EarlyLatency x73.LateLatency x73.Uncertainty)) 3 _ rfl rfl rfl hs62 hg76 hy74 rfl cn_2 rfl hr78r hcl79 rfl rfl C_Clock_mk (fun k h => absurd h.2 (Nat.not_lt_zero k))) ?_
    rintro _ w80 ⟨hu81, hs82⟩
    have he83 : But (pB b0_) w w80 := But.upd he70 hu81 (Or.inr (by have := hbd15 _ hg76; omega))
    have hb69 := Box.upd hb69 hu81 (by have := hbd15 _ hg76; omega)
    have ha2 := slRep.upd ha2 hu81 (by have := hbd15 _ hg76; omega)
    have hz84 := (hu81).size
    refine TL.done ?_
    refine NX.seq ?_
    obtain ⟨x85, hy86, hF⟩ := bsome hF
    obtain ⟨r92, hr93, hF⟩ := bsome hF
    obtain ⟨x100, hy101, hF⟩ := bsome hF
    refine WC.heldG (p := (pB b0_)) 10 Tryd.hm fun w112 hx113 => ?_
    have he114 : But (pB b0_) w w112 := But.ext he83 hx113
    have hb69 := Box.ext hb69 hx113
    have ha2 := slRep.old ha2 hx113 (by omega)
    have hs82 := ownR.ext hs82 hx113
    have hz115 := (hx113).size
    refine HLG.yld 0 (by kernel_rfl) rfl (by kernel_rfl) rfl rfl (fun wx hbx => (yld_move rfl rfl)) ?_
    refine HLG.yld 1 (by kernel_rfl) rfl (by kernel_rfl) rfl rfl (fun wx hbx => (yld_move rfl rfl)) ?_
    refine HLG.ya 2 (by kernel_rfl) rfl (by kernel_rfl) rfl rfl (ya_index_own (c := C_Clock) rfl Tryd.underlying26 cn_75 rfl rfl hs82 hy86) ?_
    rintro _ ⟨g116, us118, rfl, hg117, hr119, hcl120⟩
    have hr119r := hr119
    obtain rfl := C_Clock_open hr119
    refine HLG.yld 3 (by kernel_rfl) rfl (by kernel_rfl) rfl rfl (fun wx hbx => (yld_fieldAddr rfl fo_75_3 rfl)) ?_
    refine HLG.yld 4 (by kernel_rfl) rfl (by kernel_rfl) rfl rfl (fun wx hbx => (have hp121 : ∀ g, v12.ownBlock = some g → g ≠ b0_ := (fun g hg => by have := hbd15 g hg; omega); have hcl120 := CellsAt.but hcl120 hbx (all_pB ((hp121 _ hg117).symm)) (by have := hbd15 _ hg117; omega); (yld_load1 3 rfl ag_2 rfl hcl120 rfl rfl))) ?_
    refine HLG.yld 5 (by kernel_rfl) rfl (by kernel_rfl) rfl rfl (fun wx hbx => (yld_add rfl rfl rfl)) ?_
    refine HLG.yld 6 (by kernel_rfl) rfl (by kernel_rfl) rfl rfl (fun wx hbx => (yld_move rfl rfl)) ?_
    refine HLG.eff 7 rfl rfl (by kernel_rfl) rfl rfl (eff_call rfl gf_71 rfl (W_spec_l01Next hr93 hb69 ha2 (by omega) (by omega))) ?_
    rintro _ w122 ⟨rfl, hb124, hx123⟩
    have he125 : But (pB b0_) w w122 := But.but he114 hx123 (all_pB (Or.inl rfl))
    have ha2 := slRep.but ha2 hx123 (all_pB (by omega)) (by omega)
    have hp126 : ∀ g, v12.ownBlock = some g → g ≠ b0_ := (fun g hg => by have := hbd15 g hg; omega)
    have hs82 := ownR.butF hs82 hx123 (all_pB (fun g hg e => hp126 g hg e.symm))
    have hz127 := (hx123).size
    have hbs128 : But (pB b0_) w112 w122 := (But.but (But.refl _ w112) hx123 (all_pB (Or.inl rfl)))
    refine ⟨hbs128, ?_⟩
    refine HLG.yld 8 (by kernel_rfl) rfl (by kernel_rfl) rfl rfl (fun wx hbx => (yld_add rfl rfl rfl)) ?_
    refine HLG.yld 9 (by kernel_rfl) rfl (by kernel_rfl) rfl rfl (fun wx hbx => (yld_rem rfl rfl rfl (by decide))) ?_
    refine HLG.tail rfl (by kernel_rfl) rfl ?_
    refine TL.ye rfl rfl (ye_index_own (c := C_Clock) rfl Tryd.underlying26 cn_75 rfl rfl hs82 hy101) ?_
    rintro _ ⟨g129, us131, rfl, hg130, hr132, hcl133⟩
    have hr132r := hr132
    obtain rfl := C_Clock_open hr132
    refine TL.yld rfl rfl (yld_fieldAddr rfl fo_75_4 rfl) ?_
    refine TL.eff rfl rfl (eff_store_own (c := C_Clock) (us' := [.string x100.Name, .int .i64 x100.Place, .int .i64 x100.Period, .int .i64 x100.RiseAt, .int .i64 (Int.tmod (IntKind.wrap IntKind.i64 ((IntKind.wrap IntKind.i64 (x85.RiseAt + 1)) + r92.1)) 24), .int .i64 x100.Source, .int .i64 x100.Divide, .bool x100.Invert, .int .i64 x100.EarlyLatency, .int .i64 x100.LateLatency, .int .i64 x100.Uncertainty]) (y' := (S_Clock.mk x100.Name x100.Place x100.Period x100.RiseAt (Int.tmod (IntKind.wrap IntKind.i64 ((IntKind.wrap IntKind.i64 (x85.RiseAt + 1)) + r92.1)) 24) x100.Source x100.Divide x100.Invert x100.EarlyLatency x100.LateLatency x100.Uncertainty)) 4 _ rfl rfl rfl hs82 hg130 hy101 rfl cn_2 rfl hr132r hcl133 rfl rfl C_Clock_mk (fun k h => absurd h.2 (Nat.not_lt_zero k))) ?_
    rintro _ w134 ⟨hu135, hs136⟩
    have he137 : But (pB b0_) w w134 := But.upd he125 hu135 (Or.inr (by have := hbd15 _ hg130; omega))
    have hb124 := Box.upd hb124 hu135 (by have := hbd15 _ hg130; omega)
    have ha2 := slRep.upd ha2 hu135 (by have := hbd15 _ hg130; omega)
    have hz138 := (hu135).size
    refine TL.noPan (l := []) ?_
    refine NX.seq ?_
    refine WC.seq ?_
    refine WC.seq ?_
    refine WC.region ?_
    refine TL.yld rfl rfl (yld_move rfl rfl) ?_
    obtain ⟨r139, hr140, hF⟩ := bsome hF
    refine TL.eff rfl rfl (eff_call rfl gf_71 rfl (W_spec_l01Next hr140 hb124 ha2 (by omega) (by omega))) ?_
    rintro _ w141 ⟨rfl, hb143, hx142⟩
    have he144 : But (pB b0_) w w141 := But.but he137 hx142 (all_pB (Or.inl rfl))
    have ha2 := slRep.but ha2 hx142 (all_pB (by omega)) (by omega)
    have hp145 : ∀ g, v12.ownBlock = some g → g ≠ b0_ := (fun g hg => by have := hbd15 g hg; omega)
    have hs136 := ownR.butF hs136 hx142 (all_pB (fun g hg e => hp145 g hg e.symm))
    have hz146 := (hx142).size
    refine TL.yld rfl rfl (yld_eql rfl rfl rfl) ?_
    refine TL.done ?_
    refine NX.seq ?_
    refine WC.cond rfl ?_ ?_
    · intro hc147
      replace hF := bif_t hc147 hF
      refine WC.seq ?_
      refine WC.region ?_
      refine TL.yld rfl rfl (yld_build (uss := [(0, [.string ((ByteArray.mk #[97]))]), (2, [.int .i64 2]), (4, [.int .i64 1]), (5, [.int .i64 (-1)]), (6, [.int .i64 1])]) (out := [.string ((ByteArray.mk #[97])), .int .i64 0, .int .i64 2, .int .i64 0, .int .i64 1, .int .i64 (-1), .int .i64 1, .bool false, .int .i64 0, .int .i64 0, .int .i64 0]) rfl rfl zn_75 pl_75 rfl rfl) ?_
      refine TL.yld rfl rfl (yld_build (uss := [(0, [.string ((ByteArray.mk #[98]))]), (5, [.int .i64 0]), (6, [.int .i64 8])]) (out := [.string ((ByteArray.mk #[98])), .int .i64 0, .int .i64 0, .int .i64 0, .int .i64 0, .int .i64 0, .int .i64 8, .bool false, .int .i64 0, .int .i64 0, .int .i64 0]) rfl rfl zn_75 pl_75 rfl rfl) ?_
      refine TL.yld rfl rfl (yld_build (uss := [(0, [.string ((ByteArray.mk #[99]))]), (5, [.int .i64 1]), (6, [.int .i64 8])]) (out := [.string ((ByteArray.mk #[99])), .int .i64 0, .int .i64 0, .int .i64 0, .int .i64 0, .int .i64 1, .int .i64 8, .bool false, .int .i64 0, .int .i64 0, .int .i64 0]) rfl rfl zn_75 pl_75 rfl rfl) ?_
      refine TL.yld rfl rfl (yld_build (uss := [(0, [.string ((ByteArray.mk #[100]))]), (5, [.int .i64 2]), (6, [.int .i64 7])]) (out := [.string ((ByteArray.mk #[100])), .int .i64 0, .int .i64 0, .int .i64 0, .int .i64 0, .int .i64 2, .int .i64 7, .bool false, .int .i64 0, .int .i64 0, .int .i64 0]) rfl rfl zn_75 pl_75 rfl rfl) ?_
      refine TL.eff rfl rfl (eff_buildSlice (c := C_Clock) (xs := [(S_Clock.mk ((ByteArray.mk #[97])) 0 2 0 1 (-1) 1 false 0 0 0), (S_Clock.mk ((ByteArray.mk #[98])) 0 0 0 0 0 8 false 0 0 0), (S_Clock.mk ((ByteArray.mk #[99])) 0 0 0 0 1 8 false 0 0 0), (S_Clock.mk ((ByteArray.mk #[100])) 0 0 0 0 2 7 false 0 0 0)]) (S := (Iv 0 0)) (uss := [(0, [.string ((ByteArray.mk #[97])), .int .i64 0, .int .i64 2, .int .i64 0, .int .i64 1, .int .i64 (-1), .int .i64 1, .bool false, .int .i64 0, .int .i64 0, .int .i64 0]), (1, [.string ((ByteArray.mk #[98])), .int .i64 0, .int .i64 0, .int .i64 0, .int .i64 0, .int .i64 0, .int .i64 8, .bool false, .int .i64 0, .int .i64 0, .int .i64 0]), (2, [.string ((ByteArray.mk #[99])), .int .i64 0, .int .i64 0, .int .i64 0, .int .i64 0, .int .i64 1, .int .i64 8, .bool false, .int .i64 0, .int .i64 0, .int .i64 0]), (3, [.string ((ByteArray.mk #[100])), .int .i64 0, .int .i64 0, .int .i64 0, .int .i64 0, .int .i64 2, .int .i64 7, .bool false, .int .i64 0, .int .i64 0, .int .i64 0])]) (out := [.string ((ByteArray.mk #[97])), .int .i64 0, .int .i64 2, .int .i64 0, .int .i64 1, .int .i64 (-1), .int .i64 1, .bool false, .int .i64 0, .int .i64 0, .int .i64 0, .string ((ByteArray.mk #[98])), .int .i64 0, .int .i64 0, .int .i64 0, .int .i64 0, .int .i64 0, .int .i64 8, .bool false, .int .i64 0, .int .i64 0, .int .i64 0, .string ((ByteArray.mk #[99])), .int .i64 0, .int .i64 0, .int .i64 0, .int .i64 0, .int .i64 1, .int .i64 8, .bool false, .int .i64 0, .int .i64 0, .int .i64 0, .string ((ByteArray.mk #[100])), .int .i64 0, .int .i64 0, .int .i64 0, .int .i64 0, .int .i64 2, .int .i64 7, .bool false, .int .i64 0, .int .i64 0, .int .i64 0]) rfl Tryd.underlying26 in_75 rfl rfl (fillL_all [[.string ((ByteArray.mk #[97])), .int .i64 0, .int .i64 2, .int .i64 0, .int .i64 1, .int .i64 (-1), .int .i64 1, .bool false, .int .i64 0, .int .i64 0, .int .i64 0], [.string ((ByteArray.mk #[98])), .int .i64 0, .int .i64 0, .int .i64 0, .int .i64 0, .int .i64 0, .int .i64 8, .bool false, .int .i64 0, .int .i64 0, .int .i64 0], [.string ((ByteArray.mk #[99])), .int .i64 0, .int .i64 0, .int .i64 0, .int .i64 0, .int .i64 1, .int .i64 8, .bool false, .int .i64 0, .int .i64 0, .int .i64 0], [.string ((ByteArray.mk #[100])), .int .i64 0, .int .i64 0, .int .i64 0, .int .i64 0, .int .i64 2, .int .i64 7, .bool false, .int .i64 0, .int .i64 0, .int .i64 0]] rfl rfl rfl) rfl rfl rfl rfl (one_rep (uss := [[.string ((ByteArray.mk #[97])), .int .i64 0, .int .i64 2, .int .i64 0, .int .i64 1, .int .i64 (-1), .int .i64 1, .bool false, .int .i64 0, .int .i64 0, .int .i64 0], [.string ((ByteArray.mk #[98])), .int .i64 0, .int .i64 0, .int .i64 0, .int .i64 0, .int .i64 0, .int .i64 8, .bool false, .int .i64 0, .int .i64 0, .int .i64 0], [.string ((ByteArray.mk #[99])), .int .i64 0, .int .i64 0, .int .i64 0, .int .i64 0, .int .i64 1, .int .i64 8, .bool false, .int .i64 0, .int .i64 0, .int .i64 0], [.string ((ByteArray.mk #[100])), .int .i64 0, .int .i64 0, .int .i64 0, .int .i64 0, .int .i64 2, .int .i64 7, .bool false, .int .i64 0, .int .i64 0, .int .i64 0]]) (show reps _ _ _ _ _ from ⟨C_Clock_mk, C_Clock_mk, C_Clock_mk, C_Clock_mk, trivial⟩) rfl) (fun k h => by have := h.2; omega) rfl) ?_
      rintro v148 w149 ⟨g150, hv151, hg152, hz153, hx154, hs155⟩
      have he156 : But (pB b0_) w w149 := But.ext he144 hx154
      have hb143 := Box.ext hb143 hx154
      have ha2 := slRep.old ha2 hx154 (by omega)
      have hs136 := ownR.ext hs136 hx154
      have hz157 := (hx154).size
      have hlo158 : w.heap.size ≤ g150 := by rw [hg152]; exact (he144).size
      have hbd159 := bd_of hv151
      clear hv151
      refine TL.yld rfl rfl (yld_assign rfl rfl) ?_
      refine TL.done ?_
      refine NX.seq ?_
      refine WC.seq ?_
      refine WC.region ?_
      refine TL.yld rfl rfl (yld_assign rfl rfl) ?_
      refine TL.done ?_
      refine NX.seq ?_
      refine WC.region ?_
      refine TL.yld rfl rfl (yld_move rfl rfl) ?_
      obtain ⟨r161, hr162, hF⟩ := bsome hF
      refine TL.eff rfl rfl (eff_call rfl gf_71 rfl (W_spec_l01Next hr162 hb143 ha2 (by omega) (by omega))) ?_
      rintro _ w163 ⟨rfl, hb165, hx164⟩
      have he166 : But (pB b0_) w w163 := But.but he156 hx164 (all_pB (Or.inl rfl))
      have ha2 := slRep.but ha2 hx164 (all_pB (by omega)) (by omega)
      have hp167 : ∀ g, v12.ownBlock = some g → g ≠ b0_ := (fun g hg => by have := hbd15 g hg; omega)
      have hs136 := ownR.butF hs136 hx164 (all_pB (fun g hg e => hp167 g hg e.symm))
      have hp168 : ∀ g, v148.ownBlock = some g → g ≠ b0_ := (fun g hg => by have := hbd159 g hg; omega)
      have hs155 := ownR.butF hs155 hx164 (all_pB (fun g hg e => hp168 g hg e.symm))
      have hz169 := (hx164).size
      refine TL.yld rfl rfl (yld_assign rfl rfl) ?_
      refine TL.done ?_
      refine NX.seq ?_
      refine WC.seq ?_
      refine WC.region ?_
      refine TL.yld rfl rfl (yld_move rfl rfl) ?_
      refine TL.yld rfl rfl (yld_move rfl rfl) ?_
      refine TL.yld rfl rfl (yld_move rfl rfl) ?_
      obtain ⟨r170, hr171, hF⟩ := bsome hF
      refine TL.eff rfl rfl (eff_call rfl gf_100 rfl (W_spec_l14DrawEdge hr171 hb165 ha2 (by omega) (by omega))) ?_
      rintro _ w172 ⟨rfl, hb174, hx173⟩
      have he175 : But (pB b0_) w w172 := But.but he166 hx173 (all_pB (Or.inl rfl))
      have ha2 := slRep.but ha2 hx173 (all_pB (by omega)) (by omega)
      have hp176 : ∀ g, v12.ownBlock = some g → g ≠ b0_ := (fun g hg => by have := hbd15 g hg; omega)
      have hs136 := ownR.butF hs136 hx173 (all_pB (fun g hg e => hp176 g hg e.symm))
      have hp177 : ∀ g, v148.ownBlock = some g → g ≠ b0_ := (fun g hg => by have := hbd159 g hg; omega)
      have hs155 := ownR.butF hs155 hx173 (all_pB (fun g hg e => hp177 g hg e.symm))
      have hz178 := (hx173).size
      refine TL.yld rfl rfl (yld_move rfl rfl) ?_
      refine TL.yld rfl rfl (yld_move rfl rfl) ?_
      obtain ⟨r179, hr180, hF⟩ := bsome hF
      refine TL.eff rfl rfl (eff_call rfl gf_100 rfl (W_spec_l14DrawEdge hr180 hb174 ha2 (by omega) (by omega))) ?_
      rintro _ w181 ⟨rfl, hb183, hx182⟩
      have he184 : But (pB b0_) w w181 := But.but he175 hx182 (all_pB (Or.inl rfl))
      have ha2 := slRep.but ha2 hx182 (all_pB (by omega)) (by omega)
      have hp185 : ∀ g, v12.ownBlock = some g → g ≠ b0_ := (fun g hg => by have := hbd15 g hg; omega)
      have hs136 := ownR.butF hs136 hx182 (all_pB (fun g hg e => hp185 g hg e.symm))
      have hp186 : ∀ g, v148.ownBlock = some g → g ≠ b0_ := (fun g hg => by have := hbd159 g hg; omega)
      have hs155 := ownR.butF hs155 hx182 (all_pB (fun g hg e => hp186 g hg e.symm))
      have hz187 := (hx182).size
      refine TL.yld rfl rfl (yld_assign rfl rfl) ?_
      refine TL.yld rfl rfl (yld_assign rfl rfl) ?_
      refine TL.yld rfl rfl (yld_assign rfl rfl) ?_
      refine TL.yld rfl rfl (yld_assign rfl rfl) ?_
      refine TL.yld rfl rfl (yld_assign rfl rfl) ?_
      refine TL.done ?_
      refine NX.seq ?_
      refine WC.ret' ?_
      obtain rfl := Option.some.inj hF
      exact NX.end (rs := [.tmp 2, .tmp 3, .tmp 4, .tmp 5, .tmp 6]) (vs := [v148, .int .i64 0, .int .i64 r170.1, .int .i64 r161.1, .int .i64 r179.1]) rfl ⟨rfl, rfl, rfl, rfl, rfl, trivial⟩ ⟨_, rfl, _, rfl, ownR.base hs155 (by omega), hb183, he184⟩
    · intro hc188
      replace hF := bif_f hc188 hF
      refine WC.skip' ?_
      refine NX.seq ?_
      refine WC.seq ?_
      refine WC.region ?_
      refine TL.yld rfl rfl (yld_move rfl rfl) ?_
      refine TL.yld rfl rfl (yld_move rfl rfl) ?_
      refine TL.yld rfl rfl (yld_move rfl rfl) ?_
      obtain ⟨r189, hr190, hF⟩ := bsome hF
      refine TL.eff rfl rfl (eff_call rfl gf_100 rfl (W_spec_l14DrawEdge hr190 hb143 ha2 (by omega) (by omega))) ?_
      rintro _ w191 ⟨rfl, hb193, hx192⟩
      have he194 : But (pB b0_) w w191 := But.but he144 hx192 (all_pB (Or.inl rfl))
      have ha2 := slRep.but ha2 hx192 (all_pB (by omega)) (by omega)
      have hp195 : ∀ g, v12.ownBlock = some g → g ≠ b0_ := (fun g hg => by have := hbd15 g hg; omega)
      have hs136 := ownR.butF hs136 hx192 (all_pB (fun g hg e => hp195 g hg e.symm))
      have hz196 := (hx192).size
      refine TL.yld rfl rfl (yld_move rfl rfl) ?_
      refine TL.yld rfl rfl (yld_move rfl rfl) ?_
      obtain ⟨r197, hr198, hF⟩ := bsome hF
      refine TL.eff rfl rfl (eff_call rfl gf_100 rfl (W_spec_l14DrawEdge hr198 hb193 ha2 (by omega) (by omega))) ?_
      rintro _ w199 ⟨rfl, hb201, hx200⟩
      have he202 : But (pB b0_) w w199 := But.but he194 hx200 (all_pB (Or.inl rfl))
      have ha2 := slRep.but ha2 hx200 (all_pB (by omega)) (by omega)
      have hp203 : ∀ g, v12.ownBlock = some g → g ≠ b0_ := (fun g hg => by have := hbd15 g hg; omega)
      have hs136 := ownR.butF hs136 hx200 (all_pB (fun g hg e => hp203 g hg e.symm))
      have hz204 := (hx200).size
      refine TL.yld rfl rfl (yld_assign rfl rfl) ?_
      refine TL.yld rfl rfl (yld_assign rfl rfl) ?_
      refine TL.yld rfl rfl (yld_assign rfl rfl) ?_
      refine TL.yld rfl rfl (yld_assign rfl rfl) ?_
      refine TL.yld rfl rfl (yld_assign rfl rfl) ?_
      refine TL.done ?_
      refine NX.seq ?_
      refine WC.ret' ?_
      obtain rfl := Option.some.inj hF
      exact NX.end (rs := [.tmp 2, .tmp 3, .tmp 4, .tmp 5, .tmp 6]) (vs := [v12, .int .i64 r19.1, .int .i64 r189.1, .int .i64 r27.1, .int .i64 r197.1]) rfl ⟨rfl, rfl, rfl, rfl, rfl, trivial⟩ ⟨_, rfl, _, rfl, ownR.base hs136 (by omega), hb201, he202⟩
  · intro hc205
    replace hF := bif_f hc205 hF
    refine WC.skip' ?_
    refine NX.seq ?_
    refine WC.seq ?_
    refine WC.seq ?_
    refine WC.region ?_
    refine TL.yld rfl rfl (yld_move rfl rfl) ?_
    obtain ⟨r206, hr207, hF⟩ := bsome hF
    refine TL.eff rfl rfl (eff_call rfl gf_71 rfl (W_spec_l01Next hr207 hb48 ha2 (by omega) (by omega))) ?_
    rintro _ w208 ⟨rfl, hb210, hx209⟩
    have he211 : But (pB b0_) w w208 := But.but he49 hx209 (all_pB (Or.inl rfl))
    have ha2 := slRep.but ha2 hx209 (all_pB (by omega)) (by omega)
    have hp212 : ∀ g, v12.ownBlock = some g → g ≠ b0_ := (fun g hg => by have := hbd15 g hg; omega)
    have hs13 := ownR.butF hs13 hx209 (all_pB (fun g hg e => hp212 g hg e.symm))
    have hz213 := (hx209).size
    refine TL.yld rfl rfl (yld_eql rfl rfl rfl) ?_
    refine TL.done ?_
    refine NX.seq ?_
    refine WC.cond rfl ?_ ?_
    · intro hc214
      replace hF := bif_t hc214 hF
      refine WC.seq ?_
      refine WC.region ?_
      refine TL.yld rfl rfl (yld_build (uss := [(0, [.string ((ByteArray.mk #[97]))]), (2, [.int .i64 2]), (4, [.int .i64 1]), (5, [.int .i64 (-1)]), (6, [.int .i64 1])]) (out := [.string ((ByteArray.mk #[97])), .int .i64 0, .int .i64 2, .int .i64 0, .int .i64 1, .int .i64 (-1), .int .i64 1, .bool false, .int .i64 0, .int .i64 0, .int .i64 0]) rfl rfl zn_75 pl_75 rfl rfl) ?_
      refine TL.yld rfl rfl (yld_build (uss := [(0, [.string ((ByteArray.mk #[98]))]), (5, [.int .i64 0]), (6, [.int .i64 8])]) (out := [.string ((ByteArray.mk #[98])), .int .i64 0, .int .i64 0, .int .i64 0, .int .i64 0, .int .i64 0, .int .i64 8, .bool false, .int .i64 0, .int .i64 0, .int .i64 0]) rfl rfl zn_75 pl_75 rfl rfl) ?_
      refine TL.yld rfl rfl (yld_build (uss := [(0, [.string ((ByteArray.mk #[99]))]), (5, [.int .i64 1]), (6, [.int .i64 8])]) (out := [.string ((ByteArray.mk #[99])), .int .i64 0, .int .i64 0, .int .i64 0, .int .i64 0, .int .i64 1, .int .i64 8, .bool false, .int .i64 0, .int .i64 0, .int .i64 0]) rfl rfl zn_75 pl_75 rfl rfl) ?_
      refine TL.yld rfl rfl (yld_build (uss := [(0, [.string ((ByteArray.mk #[100]))]), (5, [.int .i64 2]), (6, [.int .i64 7])]) (out := [.string ((ByteArray.mk #[100])), .int .i64 0, .int .i64 0, .int .i64 0, .int .i64 0, .int .i64 2, .int .i64 7, .bool false, .int .i64 0, .int .i64 0, .int .i64 0]) rfl rfl zn_75 pl_75 rfl rfl) ?_
      refine TL.eff rfl rfl (eff_buildSlice (c := C_Clock) (xs := [(S_Clock.mk ((ByteArray.mk #[97])) 0 2 0 1 (-1) 1 false 0 0 0), (S_Clock.mk ((ByteArray.mk #[98])) 0 0 0 0 0 8 false 0 0 0), (S_Clock.mk ((ByteArray.mk #[99])) 0 0 0 0 1 8 false 0 0 0), (S_Clock.mk ((ByteArray.mk #[100])) 0 0 0 0 2 7 false 0 0 0)]) (S := (Iv 0 0)) (uss := [(0, [.string ((ByteArray.mk #[97])), .int .i64 0, .int .i64 2, .int .i64 0, .int .i64 1, .int .i64 (-1), .int .i64 1, .bool false, .int .i64 0, .int .i64 0, .int .i64 0]), (1, [.string ((ByteArray.mk #[98])), .int .i64 0, .int .i64 0, .int .i64 0, .int .i64 0, .int .i64 0, .int .i64 8, .bool false, .int .i64 0, .int .i64 0, .int .i64 0]), (2, [.string ((ByteArray.mk #[99])), .int .i64 0, .int .i64 0, .int .i64 0, .int .i64 0, .int .i64 1, .int .i64 8, .bool false, .int .i64 0, .int .i64 0, .int .i64 0]), (3, [.string ((ByteArray.mk #[100])), .int .i64 0, .int .i64 0, .int .i64 0, .int .i64 0, .int .i64 2, .int .i64 7, .bool false, .int .i64 0, .int .i64 0, .int .i64 0])]) (out := [.string ((ByteArray.mk #[97])), .int .i64 0, .int .i64 2, .int .i64 0, .int .i64 1, .int .i64 (-1), .int .i64 1, .bool false, .int .i64 0, .int .i64 0, .int .i64 0, .string ((ByteArray.mk #[98])), .int .i64 0, .int .i64 0, .int .i64 0, .int .i64 0, .int .i64 0, .int .i64 8, .bool false, .int .i64 0, .int .i64 0, .int .i64 0, .string ((ByteArray.mk #[99])), .int .i64 0, .int .i64 0, .int .i64 0, .int .i64 0, .int .i64 1, .int .i64 8, .bool false, .int .i64 0, .int .i64 0, .int .i64 0, .string ((ByteArray.mk #[100])), .int .i64 0, .int .i64 0, .int .i64 0, .int .i64 0, .int .i64 2, .int .i64 7, .bool false, .int .i64 0, .int .i64 0, .int .i64 0]) rfl Tryd.underlying26 in_75 rfl rfl (fillL_all [[.string ((ByteArray.mk #[97])), .int .i64 0, .int .i64 2, .int .i64 0, .int .i64 1, .int .i64 (-1), .int .i64 1, .bool false, .int .i64 0, .int .i64 0, .int .i64 0], [.string ((ByteArray.mk #[98])), .int .i64 0, .int .i64 0, .int .i64 0, .int .i64 0, .int .i64 0, .int .i64 8, .bool false, .int .i64 0, .int .i64 0, .int .i64 0], [.string ((ByteArray.mk #[99])), .int .i64 0, .int .i64 0, .int .i64 0, .int .i64 0, .int .i64 1, .int .i64 8, .bool false, .int .i64 0, .int .i64 0, .int .i64 0], [.string ((ByteArray.mk #[100])), .int .i64 0, .int .i64 0, .int .i64 0, .int .i64 0, .int .i64 2, .int .i64 7, .bool false, .int .i64 0, .int .i64 0, .int .i64 0]] rfl rfl rfl) rfl rfl rfl rfl (one_rep (uss := [[.string ((ByteArray.mk #[97])), .int .i64 0, .int .i64 2, .int .i64 0, .int .i64 1, .int .i64 (-1), .int .i64 1, .bool false, .int .i64 0, .int .i64 0, .int .i64 0], [.string ((ByteArray.mk #[98])), .int .i64 0, .int .i64 0, .int .i64 0, .int .i64 0, .int .i64 0, .int .i64 8, .bool false, .int .i64 0, .int .i64 0, .int .i64 0], [.string ((ByteArray.mk #[99])), .int .i64 0, .int .i64 0, .int .i64 0, .int .i64 0, .int .i64 1, .int .i64 8, .bool false, .int .i64 0, .int .i64 0, .int .i64 0], [.string ((ByteArray.mk #[100])), .int .i64 0, .int .i64 0, .int .i64 0, .int .i64 0, .int .i64 2, .int .i64 7, .bool false, .int .i64 0, .int .i64 0, .int .i64 0]]) (show reps _ _ _ _ _ from ⟨C_Clock_mk, C_Clock_mk, C_Clock_mk, C_Clock_mk, trivial⟩) rfl) (fun k h => by have := h.2; omega) rfl) ?_
      rintro v215 w216 ⟨g217, hv218, hg219, hz220, hx221, hs222⟩
      have he223 : But (pB b0_) w w216 := But.ext he211 hx221
      have hb210 := Box.ext hb210 hx221
      have ha2 := slRep.old ha2 hx221 (by omega)
      have hs13 := ownR.ext hs13 hx221
      have hz224 := (hx221).size
      have hlo225 : w.heap.size ≤ g217 := by rw [hg219]; exact (he211).size
      have hbd226 := bd_of hv218
      clear hv218
      refine TL.yld rfl rfl (yld_assign rfl rfl) ?_
      refine TL.done ?_
      refine NX.seq ?_
      refine WC.seq ?_
      refine WC.region ?_
      refine TL.yld rfl rfl (yld_assign rfl rfl) ?_
      refine TL.done ?_
      refine NX.seq ?_
      refine WC.region ?_
      refine TL.yld rfl rfl (yld_move rfl rfl) ?_
      obtain ⟨r228, hr229, hF⟩ := bsome hF
      refine TL.eff rfl rfl (eff_call rfl gf_71 rfl (W_spec_l01Next hr229 hb210 ha2 (by omega) (by omega))) ?_
      rintro _ w230 ⟨rfl, hb232, hx231⟩
      have he233 : But (pB b0_) w w230 := But.but he223 hx231 (all_pB (Or.inl rfl))
      have ha2 := slRep.but ha2 hx231 (all_pB (by omega)) (by omega)
      have hp234 : ∀ g, v12.ownBlock = some g → g ≠ b0_ := (fun g hg => by have := hbd15 g hg; omega)
      have hs13 := ownR.butF hs13 hx231 (all_pB (fun g hg e => hp234 g hg e.symm))
      have hp235 : ∀ g, v215.ownBlock = some g → g ≠ b0_ := (fun g hg => by have := hbd226 g hg; omega)
      have hs222 := ownR.butF hs222 hx231 (all_pB (fun g hg e => hp235 g hg e.symm))
      have hz236 := (hx231).size
      refine TL.yld rfl rfl (yld_assign rfl rfl) ?_
      refine TL.done ?_
      refine NX.seq ?_
      refine WC.seq ?_
      refine WC.region ?_
      refine TL.yld rfl rfl (yld_move rfl rfl) ?_
      refine TL.yld rfl rfl (yld_move rfl rfl) ?_
      refine TL.yld rfl rfl (yld_move rfl rfl) ?_
      obtain ⟨r237, hr238, hF⟩ := bsome hF
      refine TL.eff rfl rfl (eff_call rfl gf_100 rfl (W_spec_l14DrawEdge hr238 hb232 ha2 (by omega) (by omega))) ?_
      rintro _ w239 ⟨rfl, hb241, hx240⟩
      have he242 : But (pB b0_) w w239 := But.but he233 hx240 (all_pB (Or.inl rfl))
      have ha2 := slRep.but ha2 hx240 (all_pB (by omega)) (by omega)
      have hp243 : ∀ g, v12.ownBlock = some g → g ≠ b0_ := (fun g hg => by have := hbd15 g hg; omega)
      have hs13 := ownR.butF hs13 hx240 (all_pB (fun g hg e => hp243 g hg e.symm))
      have hp244 : ∀ g, v215.ownBlock = some g → g ≠ b0_ := (fun g hg => by have := hbd226 g hg; omega)
      have hs222 := ownR.butF hs222 hx240 (all_pB (fun g hg e => hp244 g hg e.symm))
      have hz245 := (hx240).size
      refine TL.yld rfl rfl (yld_move rfl rfl) ?_
      refine TL.yld rfl rfl (yld_move rfl rfl) ?_
      obtain ⟨r246, hr247, hF⟩ := bsome hF
      refine TL.eff rfl rfl (eff_call rfl gf_100 rfl (W_spec_l14DrawEdge hr247 hb241 ha2 (by omega) (by omega))) ?_
      rintro _ w248 ⟨rfl, hb250, hx249⟩
      have he251 : But (pB b0_) w w248 := But.but he242 hx249 (all_pB (Or.inl rfl))
      have ha2 := slRep.but ha2 hx249 (all_pB (by omega)) (by omega)
      have hp252 : ∀ g, v12.ownBlock = some g → g ≠ b0_ := (fun g hg => by have := hbd15 g hg; omega)
      have hs13 := ownR.butF hs13 hx249 (all_pB (fun g hg e => hp252 g hg e.symm))
      have hp253 : ∀ g, v215.ownBlock = some g → g ≠ b0_ := (fun g hg => by have := hbd226 g hg; omega)
      have hs222 := ownR.butF hs222 hx249 (all_pB (fun g hg e => hp253 g hg e.symm))
      have hz254 := (hx249).size
      refine TL.yld rfl rfl (yld_assign rfl rfl) ?_
      refine TL.yld rfl rfl (yld_assign rfl rfl) ?_
      refine TL.yld rfl rfl (yld_assign rfl rfl) ?_
      refine TL.yld rfl rfl (yld_assign rfl rfl) ?_
      refine TL.yld rfl rfl (yld_assign rfl rfl) ?_
      refine TL.done ?_
      refine NX.seq ?_
      refine WC.ret' ?_
      obtain rfl := Option.some.inj hF
      exact NX.end (rs := [.tmp 2, .tmp 3, .tmp 4, .tmp 5, .tmp 6]) (vs := [v215, .int .i64 0, .int .i64 r237.1, .int .i64 r228.1, .int .i64 r246.1]) rfl ⟨rfl, rfl, rfl, rfl, rfl, trivial⟩ ⟨_, rfl, _, rfl, ownR.base hs222 (by omega), hb250, he251⟩
    · intro hc255
      replace hF := bif_f hc255 hF
      refine WC.skip' ?_
      refine NX.seq ?_
      refine WC.seq ?_
      refine WC.region ?_
      refine TL.yld rfl rfl (yld_move rfl rfl) ?_
      refine TL.yld rfl rfl (yld_move rfl rfl) ?_
      refine TL.yld rfl rfl (yld_move rfl rfl) ?_
      obtain ⟨r256, hr257, hF⟩ := bsome hF
      refine TL.eff rfl rfl (eff_call rfl gf_100 rfl (W_spec_l14DrawEdge hr257 hb210 ha2 (by omega) (by omega))) ?_
      rintro _ w258 ⟨rfl, hb260, hx259⟩
      have he261 : But (pB b0_) w w258 := But.but he211 hx259 (all_pB (Or.inl rfl))
      have ha2 := slRep.but ha2 hx259 (all_pB (by omega)) (by omega)
      have hp262 : ∀ g, v12.ownBlock = some g → g ≠ b0_ := (fun g hg => by have := hbd15 g hg; omega)
      have hs13 := ownR.butF hs13 hx259 (all_pB (fun g hg e => hp262 g hg e.symm))
      have hz263 := (hx259).size
      refine TL.yld rfl rfl (yld_move rfl rfl) ?_
      refine TL.yld rfl rfl (yld_move rfl rfl) ?_
      obtain ⟨r264, hr265, hF⟩ := bsome hF
      refine TL.eff rfl rfl (eff_call rfl gf_100 rfl (W_spec_l14DrawEdge hr265 hb260 ha2 (by omega) (by omega))) ?_
      rintro _ w266 ⟨rfl, hb268, hx267⟩
      have he269 : But (pB b0_) w w266 := But.but he261 hx267 (all_pB (Or.inl rfl))
      have ha2 := slRep.but ha2 hx267 (all_pB (by omega)) (by omega)
      have hp270 : ∀ g, v12.ownBlock = some g → g ≠ b0_ := (fun g hg => by have := hbd15 g hg; omega)
      have hs13 := ownR.butF hs13 hx267 (all_pB (fun g hg e => hp270 g hg e.symm))
      have hz271 := (hx267).size
      refine TL.yld rfl rfl (yld_assign rfl rfl) ?_
      refine TL.yld rfl rfl (yld_assign rfl rfl) ?_
      refine TL.yld rfl rfl (yld_assign rfl rfl) ?_
      refine TL.yld rfl rfl (yld_assign rfl rfl) ?_
      refine TL.yld rfl rfl (yld_assign rfl rfl) ?_
      refine TL.done ?_
      refine NX.seq ?_
      refine WC.ret' ?_
      obtain rfl := Option.some.inj hF
      exact NX.end (rs := [.tmp 2, .tmp 3, .tmp 4, .tmp 5, .tmp 6]) (vs := [v12, .int .i64 r19.1, .int .i64 r256.1, .int .i64 r27.1, .int .i64 r264.1]) rfl ⟨rfl, rfl, rfl, rfl, rfl, trivial⟩ ⟨_, rfl, _, rfl, ownR.base hs13 (by omega), hb268, he269⟩

-- loop.example/g00861/spec.DrawEdgePairs
def F_spec_DrawEdgePairs (n : Nat) (a0_code : List Int) : Option ((List S_Clock) × Int × Int × Int × Int) := (Option.bind (F_spec_l01From n a0_code) fun r3 => (Option.bind (F_spec_l15DrawPair n ((S_l01Source.mk a0_code r3.at_ r3.seed_))) fun r12 => (some (r12.1, r12.2.1, r12.2.2.1, r12.2.2.2.1, r12.2.2.2.2.1))))
set_option maxHeartbeats 40000000 in
theorem W_spec_DrawEdgePairs {n : Nat} {a0_code : List Int} {r : (List S_Clock) × Int × Int × Int × Int} {w : World} {v1 : Value} (hF : F_spec_DrawEdgePairs n a0_code = some r) (ha2 : slRep (cInt .u8) w (Iv 0 w.heap.size) a0_code v1) :
    Calls Tryd.prog 24 [v1].toArray w (Ret fun u w2 => ∃ v0_0, u = .tuple #[v0_0, .int .i64 r.2.1, .int .i64 r.2.2.1, .int .i64 r.2.2.2.1, .int .i64 r.2.2.2.2] ∧ ownR C_Clock w2 w.heap.size (Iv 0 0) 75 r.1 v0_0 ∧ Ext w w2) := by
  refine calls_of Tryd.func24 rfl Tryd.ntmps24 ?_
  have he0 : Ext w w := Ext.refl w
  unfold F_spec_DrawEdgePairs at hF
  refine WC.seq ?_
  refine WC.region ?_
  refine TL.yld rfl rfl (yld_assign rfl rfl) ?_
  refine TL.yld rfl rfl (yld_assign rfl rfl) ?_
  refine TL.yld rfl rfl (yld_assign rfl rfl) ?_
  refine TL.yld rfl rfl (yld_assign rfl rfl) ?_
  refine TL.yld rfl rfl (yld_assign rfl rfl) ?_
  refine TL.done ?_
  refine NX.seq ?_
  refine WC.seq ?_
  refine WC.region ?_
  refine TL.yld rfl rfl (yld_move rfl rfl) ?_
  obtain ⟨r3, hr4, hF⟩ := bsome hF
  refine TL.eff rfl rfl (eff_call rfl gf_57 rfl (W_spec_l01From hr4 ((slRep.old ha2 he0 (Nat.le_refl _)).wide (Nat.le_refl _) (he0).size))) ?_
  rintro _ w5 ⟨b7, rfl, hb8, hlo9, hx6⟩
  have he10 : Ext w w5 := Ext.trans he0 hx6
  have hz11 := (hx6).size
  have := hlo9
  have := Box.lt hb8
  refine TL.yld rfl rfl (yld_assign rfl rfl) ?_
  refine TL.done ?_
  refine NX.seq ?_
  refine WC.seq ?_
  refine WC.region ?_
  refine TL.yld rfl rfl (yld_move rfl rfl) ?_
  obtain ⟨r12, hr13, hF⟩ := bsome hF
  refine TL.eff rfl rfl (eff_call rfl gf_58 rfl (W_spec_l15DrawPair hr13 hb8 (slRep.old ha2 he10 (Nat.le_refl _)) (by omega) (by omega))) ?_
  rintro _ w14 ⟨v16, rfl, hs17, hb20, hx15⟩
  have he21 : Ext w w14 := Below.trans he10 (But.below hx15 (all_pB (by omega)) (he10).size)
  have hz22 := (hx15).size
  have hbd19 := ownR.blk hs17
  refine TL.yld rfl rfl (yld_extract rfl rfl rfl) ?_
  refine TL.yld rfl rfl (yld_extract rfl rfl rfl) ?_
  refine TL.yld rfl rfl (yld_extract rfl rfl rfl) ?_
  refine TL.yld rfl rfl (yld_extract rfl rfl rfl) ?_
  refine TL.yld rfl rfl (yld_extract rfl rfl rfl) ?_
  refine TL.yld rfl rfl (yld_assign rfl rfl) ?_
  refine TL.yld rfl rfl (yld_assign rfl rfl) ?_
  refine TL.yld rfl rfl (yld_assign rfl rfl) ?_
  refine TL.yld rfl rfl (yld_assign rfl rfl) ?_
  refine TL.yld rfl rfl (yld_assign rfl rfl) ?_
  refine TL.done ?_
  refine NX.seq ?_
  refine WC.ret' ?_
  obtain rfl := Option.some.inj hF
  exact NX.end (rs := [.tmp 2, .tmp 3, .tmp 4, .tmp 5, .tmp 6]) (vs := [v16, .int .i64 r12.2.1, .int .i64 r12.2.2.1, .int .i64 r12.2.2.2.1, .int .i64 r12.2.2.2.2.1]) rfl ⟨rfl, rfl, rfl, rfl, rfl, trivial⟩ ⟨_, rfl, _, rfl, ownR.base hs17 (by omega), he21⟩

-- loop.example/g00861/impl.within
def F_impl_within (n : Nat) (a0_x : Int) (a1_low : Int) (a2_high : Int) : Option Bool := (some (((decide (a0_x ≥ a1_low)) && (decide (a0_x ≤ a2_high)))))
set_option maxHeartbeats 40000000 in
theorem W_impl_within {n : Nat} {a0_x : Int} {a1_low : Int} {a2_high : Int} {r : Bool} {w : World} (hF : F_impl_within n a0_x a1_low a2_high = some r) :
    Calls Tryd.prog 54 [.int .i64 a0_x, .int .i64 a1_low, .int .i64 a2_high].toArray w (Ret fun u w2 => u = .bool r ∧ Ext w w2) := by
  refine calls_of Tryd.func54 rfl Tryd.ntmps54 ?_
  have he0 : Ext w w := Ext.refl w
  unfold F_impl_within at hF
  refine WC.seq ?_
  refine WC.region ?_
  refine TL.yld rfl rfl (yld_assign rfl rfl) ?_
  refine TL.done ?_
  refine NX.seq ?_
  refine WC.seq ?_
  refine WC.region ?_
  refine TL.yld rfl rfl (yld_move rfl rfl) ?_
  refine TL.yld rfl rfl (yld_move rfl rfl) ?_
  refine TL.yld rfl rfl (yld_geq rfl rfl rfl) ?_
  refine TL.yld rfl rfl (yld_move rfl rfl) ?_
  refine TL.cut 4 [(14, .bool (((decide (a0_x ≥ a1_low)) && (decide (a0_x ≤ a2_high)))))] (fun w' => Ext w w') ?_ ?_
  · rcases Bool.eq_false_or_eq_true (decide (a0_x ≥ a1_low)) with hg1 | hg1
    ·
      refine TL.gy (j := 3) (t := 10) rfl rfl rfl hg1 rfl (yld_move rfl rfl) ?_
      refine TL.gy (j := 3) (t := 10) rfl rfl rfl hg1 rfl (yld_move rfl rfl) ?_
      refine TL.gy (j := 3) (t := 10) rfl rfl rfl hg1 rfl (yld_leq rfl rfl rfl) ?_
      refine TL.yld rfl rfl (yld_and_t rfl rfl hg1 rfl) ?_
      exact TL.nil fun a h => ⟨h.weaken ⟨rfl, trivial⟩, Ext.refl _⟩
    ·
      refine TL.gnu (j := 3) (t := 10) rfl rfl rfl hg1 rfl ?_
      refine TL.gnu (j := 3) (t := 10) rfl rfl rfl hg1 rfl ?_
      refine TL.gnu (j := 3) (t := 10) rfl rfl rfl hg1 rfl ?_
      refine TL.yld rfl rfl (yld_and_f (b2 := decide (a0_x ≤ a2_high)) rfl rfl hg1 rfl) ?_
      exact TL.nil fun a h => ⟨h.weaken ⟨rfl, trivial⟩, Ext.refl _⟩
  intro w2 hx3
  have he4 : Ext w w2 := Ext.trans he0 hx3
  have hz5 := (hx3).size
  refine TL.yld rfl rfl (yld_assign rfl rfl) ?_
  refine TL.done ?_
  refine NX.seq ?_
  refine WC.ret' ?_
  obtain rfl := Option.some.inj hF
  exact NX.end (rs := [.tmp 6]) (vs := [.bool (((decide (a0_x ≥ a1_low)) && (decide (a0_x ≤ a2_high))))]) rfl ⟨rfl, trivial⟩ ⟨_, rfl, rfl, he4⟩

-- loop.example/g00861/impl.areWithin$1
def F_impl_areWithin_1 (n : Nat) (a0_n : Int) (a1_c : Int) (a2_c : Int) : Option Bool := (Option.bind (F_impl_within n a0_n a1_c a2_c) fun r3 => (some (!r3)))
set_option maxHeartbeats 40000000 in
theorem W_impl_areWithin_1 {n : Nat} {a0_n : Int} {a1_c : Int} {a2_c : Int} {r : Bool} {w : World} {b1_ : Nat} {b2_ : Nat} (hF : F_impl_areWithin_1 n a0_n a1_c a2_c = some r) (hb1 : Box w b1_ [.int .i64 a1_c] 2) (hb2 : Box w b2_ [.int .i64 a2_c] 2) :
    Calls Tryd.prog 121 [.int .i64 a0_n, .pointer (some ⟨b1_, 0, none⟩), .pointer (some ⟨b2_, 0, none⟩)].toArray w (Ret fun u w2 => u = .bool r ∧ Ext w w2) := by
  refine calls_of Tryd.func121 rfl Tryd.ntmps121 ?_
  have he0 : Ext w w := Ext.refl w
  have := Box.lt hb1
  have := Box.lt hb2
  unfold F_impl_areWithin_1 at hF
  refine WC.seq ?_
  refine WC.region ?_
  refine TL.yld rfl rfl (yld_assign rfl rfl) ?_
  refine TL.done ?_
  refine NX.seq ?_
  refine WC.seq ?_
  refine WC.region ?_
  refine TL.yld rfl rfl (yld_move rfl rfl) ?_
  refine TL.yld rfl rfl (yld_load1 0 rfl ag_2 rfl (Box.cells hb1) rfl rfl) ?_
  refine TL.yld rfl rfl (yld_load1 0 rfl ag_2 rfl (Box.cells hb2) rfl rfl) ?_
  obtain ⟨r3, hr4, hF⟩ := bsome hF
  refine TL.eff rfl rfl (eff_call rfl gf_54 rfl (W_impl_within hr4)) ?_
  rintro _ w5 ⟨rfl, hx6⟩
  have he7 : Ext w w5 := Ext.trans he0 hx6
  have hb1 := Box.ext hb1 hx6
  have hb2 := Box.ext hb2 hx6
  have hz8 := (hx6).size
  refine TL.yld rfl rfl (yld_not rfl rfl) ?_
  refine TL.yld rfl rfl (yld_assign rfl rfl) ?_
  refine TL.done ?_
  refine NX.seq ?_
  refine WC.ret' ?_
  obtain rfl := Option.some.inj hF
  exact NX.end (rs := [.tmp 4]) (vs := [.bool (!r3)]) rfl ⟨rfl, trivial⟩ ⟨_, rfl, rfl, he7⟩

-- slices.IndexFunc[[]int64,int64]
def F_slices_IndexFunc_int64_int64_on_impl_areWithin_1_L1 (n : Nat) (a0_s : List Int) (a1c0_c : Int) (a1c1_c : Int) (k0 : Int → Option Int) : Nat → Int → Option Int
  | 0 => fun _ => none
  | m + 1 => fun i7 => (bif decide (i7 < (a0_s.length : Int)) then (Option.bind (getI a0_s i7) fun x11 => (Option.bind (F_impl_areWithin_1 n x11 a1c0_c a1c1_c) fun r19 => (bif r19 then (some i7) else (F_slices_IndexFunc_int64_int64_on_impl_areWithin_1_L1 n a0_s a1c0_c a1c1_c k0 m (IntKind.wrap IntKind.i64 (i7 + 1)))))) else (k0 i7))
theorem F_slices_IndexFunc_int64_int64_on_impl_areWithin_1_L1_z (n : Nat) (a0_s : List Int) (a1c0_c : Int) (a1c1_c : Int) (k0 : Int → Option Int) (i7 : Int) : F_slices_IndexFunc_int64_int64_on_impl_areWithin_1_L1 n a0_s a1c0_c a1c1_c k0 0 i7 = none := rfl
theorem F_slices_IndexFunc_int64_int64_on_impl_areWithin_1_L1_s (m : Nat) (n : Nat) (a0_s : List Int) (a1c0_c : Int) (a1c1_c : Int) (k0 : Int → Option Int) (i7 : Int) : F_slices_IndexFunc_int64_int64_on_impl_areWithin_1_L1 n a0_s a1c0_c a1c1_c k0 (m + 1) i7 = (bif decide (i7 < (a0_s.length : Int)) then (Option.bind (getI a0_s i7) fun x11 => (Option.bind (F_impl_areWithin_1 n x11 a1c0_c a1c1_c) fun r19 => (bif r19 then (some i7) else (F_slices_IndexFunc_int64_int64_on_impl_areWithin_1_L1 n a0_s a1c0_c a1c1_c k0 m (IntKind.wrap IntKind.i64 (i7 + 1)))))) else (k0 i7)) := rfl

def F_slices_IndexFunc_int64_int64_on_impl_areWithin_1 (n : Nat) (a0_s : List Int) (a1c0_c : Int) (a1c1_c : Int) : Option Int := (F_slices_IndexFunc_int64_int64_on_impl_areWithin_1_L1 n a0_s a1c0_c a1c1_c (fun i7 => (some (-1))) n 0)
set_option maxHeartbeats 40000000 in
theorem W_slices_IndexFunc_int64_int64_on_impl_areWithin_1 {n : Nat} {a0_s : List Int} {a1c0_c : Int} {a1c1_c : Int} {r : Int} {w : World} {v1 : Value} {b1c0_ : Nat} {b1c1_ : Nat} (hF : F_slices_IndexFunc_int64_int64_on_impl_areWithin_1 n a0_s a1c0_c a1c1_c = some r) (ha2 : slRep (cInt .i64) w (Iv 0 w.heap.size) a0_s v1) (hb3 : Box w b1c0_ [.int .i64 a1c0_c] 2) (hb4 : Box w b1c1_ [.int .i64 a1c1_c] 2) :
    Calls Tryd.prog 144 [v1, .func (.func 121) #[] [.pointer (some ⟨b1c0_, 0, none⟩), .pointer (some ⟨b1c1_, 0, none⟩)].toArray].toArray w (Ret fun u w2 => u = .int .i64 r ∧ Ext w w2) := by
  refine calls_of Tryd.func144 rfl Tryd.ntmps144 ?_
  have he0 : Ext w w := Ext.refl w
  have := Box.lt hb3
  have := Box.lt hb4
  unfold F_slices_IndexFunc_int64_int64_on_impl_areWithin_1 at hF
  refine WC.seq ?_
  refine WC.region ?_
  refine TL.yld rfl rfl (yld_assign rfl rfl) ?_
  refine TL.done ?_
  refine NX.seq ?_
  refine WC.seq ?_
  refine WC.seq ?_
  refine WC.region ?_
  refine TL.yld rfl rfl (yld_move rfl rfl) ?_
  refine TL.yld rfl rfl (ye_len (c := (cInt .i64)) rfl Tryd.underlying42 rfl (slRep.old ha2 he0 (Nat.le_refl _))) ?_
  refine TL.yld rfl rfl (yld_move rfl rfl) ?_
  refine TL.done ?_
  refine NX.seq ?_
  refine WC.block ?_
  refine WC.loop (fun m10 a wl => ∃ (i7 : Int), Kn 19 [(0, v1), (1, .func (.func 121) #[] [.pointer (some ⟨b1c0_, 0, none⟩), .pointer (some ⟨b1c1_, 0, none⟩)].toArray), (7, .int .i64 ((a0_s.length : Int))), (8, .int .i64 i7)] a ∧ Ext w wl ∧ w.heap.size ≤ wl.heap.size ∧ Box wl b1c0_ [.int .i64 a1c0_c] 2 ∧ Box wl b1c1_ [.int .i64 a1c1_c] 2 ∧ F_slices_IndexFunc_int64_int64_on_impl_areWithin_1_L1 n a0_s a1c0_c a1c1_c (fun i7 => (some (-1))) m10 i7 = some r) n ?_ ?_
  · intro a hK; exact ⟨0, hK.weaken ⟨rfl, rfl, rfl, rfl, trivial⟩, he0, Nat.le_refl _, hb3, hb4, hF⟩
  · rintro m10 a w5 ⟨i7, hK, he6, hz11, hb8, hb9, hF⟩
    revert hK; revert a; refine (?_ : WC _ _ _ _ _ _)
    cases m10 with
    | zero => rw [F_slices_IndexFunc_int64_int64_on_impl_areWithin_1_L1_z] at hF; cases hF
    | succ m10 =>
      rw [F_slices_IndexFunc_int64_int64_on_impl_areWithin_1_L1_s] at hF
      refine WC.seq ?_
      refine WC.region ?_
      refine TL.yld rfl rfl (yld_lss rfl rfl rfl) ?_
      refine TL.done ?_
      refine NX.seq ?_
      refine WC.seq ?_
      refine WC.cond rfl ?_ ?_
      · intro hc12
        replace hF := bif_t hc12 hF
        refine WC.skip' ?_
        refine NX.seq ?_
        refine WC.seq ?_
        refine WC.block ?_
        refine WC.seq ?_
        refine WC.region ?_
        refine TL.yld rfl rfl (yld_move rfl rfl) ?_
        refine TL.yld rfl rfl (yld_assign rfl rfl) ?_
        refine TL.done ?_
        refine NX.seq ?_
        refine WC.seq ?_
        refine WC.region ?_
        refine TL.yld rfl rfl (yld_move rfl rfl) ?_
        refine TL.yld rfl rfl (yld_move rfl rfl) ?_
        refine TL.yld rfl rfl (yld_move rfl rfl) ?_
        obtain ⟨x13, hy14, hF⟩ := bsome hF
        refine TL.ye rfl rfl (ye_index (c := (cInt .i64)) rfl Tryd.underlying42 cn_2 rfl rfl (slRep.old ha2 he6 (Nat.le_refl _)) hy14) ?_
        rintro _ ⟨b15, o16, us17, rfl, hib20, hr18, hcl19⟩
        have hib20 : 0 ≤ b15 ∧ b15 < w.heap.size := ⟨hib20.1, by have := hib20.2; omega⟩
        obtain rfl := hr18
        refine TL.yld rfl rfl (yld_load1 0 rfl ag_2 rfl hcl19 rfl rfl) ?_
        obtain ⟨r21, hr22, hF⟩ := bsome hF
        refine TL.eff rfl rfl (eff_callv rfl gf_121 rfl rfl (W_impl_areWithin_1 hr22 hb8 hb9)) ?_
        rintro _ w23 ⟨rfl, hx24⟩
        have he25 : Ext w w23 := Ext.trans he6 hx24
        have hb8 := Box.ext hb8 hx24
        have hb9 := Box.ext hb9 hx24
        have hz26 := (hx24).size
        refine TL.done ?_
        refine NX.seq ?_
        refine WC.cond rfl ?_ ?_
        · intro hc27
          replace hF := bif_t hc27 hF
          refine WC.seq ?_
          refine WC.region ?_
          refine TL.yld rfl rfl (yld_move rfl rfl) ?_
          refine TL.yld rfl rfl (yld_assign rfl rfl) ?_
          refine TL.done ?_
          refine NX.seq ?_
          refine WC.ret' ?_
          refine NX.blk_r ?_
          refine NX.then_r ?_
          refine NX.then_r ?_
          refine NX.blk_r ?_
          refine NX.then_r ?_
          obtain rfl := Option.some.inj hF
          exact NX.end (rs := [.tmp 4]) (vs := [.int .i64 i7]) rfl ⟨rfl, trivial⟩ ⟨_, rfl, rfl, he25⟩
        · intro hc28
          replace hF := bif_f hc28 hF
          refine WC.skip' ?_
          refine NX.blk_n ?_
          refine NX.seq ?_
          refine WC.region ?_
          refine TL.yld rfl rfl (yld_add rfl rfl rfl) ?_
          refine TL.yld rfl rfl (yld_move rfl rfl) ?_
          refine TL.done ?_
          refine NX.then_n ?_
          intro a hK; exact ⟨m10, Nat.lt_succ_self m10, (IntKind.wrap IntKind.i64 (i7 + 1)), hK.weaken ⟨rfl, rfl, rfl, rfl, trivial⟩, he25, (by omega), hb8, hb9, hF⟩
      · intro hc29
        replace hF := bif_f hc29 hF
        refine WC.exit' ?_
        refine NX.then_e ?_
        refine NX.then_e ?_
        refine NX.blk_hit ?_
        refine NX.seq ?_
        refine WC.seq ?_
        refine WC.region ?_
        refine TL.yld rfl rfl (yld_assign rfl rfl) ?_
        refine TL.done ?_
        refine NX.seq ?_
        refine WC.ret' ?_
        obtain rfl := Option.some.inj hF
        exact NX.end (rs := [.tmp 4]) (vs := [.int .i64 (-1)]) rfl ⟨rfl, trivial⟩ ⟨_, rfl, rfl, he6⟩

-- slices.ContainsFunc[[]int64,int64]
def F_slices_ContainsFunc_int64_int64_on_impl_areWithin_1 (n : Nat) (a0_s : List Int) (a1c0_c : Int) (a1c1_c : Int) : Option Bool := (Option.bind (F_slices_IndexFunc_int64_int64_on_impl_areWithin_1 n a0_s a1c0_c a1c1_c) fun r5 => (some (decide (r5 ≥ 0))))
set_option maxHeartbeats 40000000 in
theorem W_slices_ContainsFunc_int64_int64_on_impl_areWithin_1 {n : Nat} {a0_s : List Int} {a1c0_c : Int} {a1c1_c : Int} {r : Bool} {w : World} {v1 : Value} {b1c0_ : Nat} {b1c1_ : Nat} (hF : F_slices_ContainsFunc_int64_int64_on_impl_areWithin_1 n a0_s a1c0_c a1c1_c = some r) (ha2 : slRep (cInt .i64) w (Iv 0 w.heap.size) a0_s v1) (hb3 : Box w b1c0_ [.int .i64 a1c0_c] 2) (hb4 : Box w b1c1_ [.int .i64 a1c1_c] 2) :
    Calls Tryd.prog 120 [v1, .func (.func 121) #[] [.pointer (some ⟨b1c0_, 0, none⟩), .pointer (some ⟨b1c1_, 0, none⟩)].toArray].toArray w (Ret fun u w2 => u = .bool r ∧ Ext w w2) := by
  refine calls_of Tryd.func120 rfl Tryd.ntmps120 ?_
  have he0 : Ext w w := Ext.refl w
  have := Box.lt hb3
  have := Box.lt hb4
  unfold F_slices_ContainsFunc_int64_int64_on_impl_areWithin_1 at hF
  refine WC.seq ?_
  refine WC.region ?_
  refine TL.yld rfl rfl (yld_assign rfl rfl) ?_
  refine TL.done ?_
  refine NX.seq ?_
  refine WC.seq ?_
  refine WC.region ?_
  refine TL.yld rfl rfl (yld_move rfl rfl) ?_
  refine TL.yld rfl rfl (yld_move rfl rfl) ?_
  obtain ⟨r5, hr6, hF⟩ := bsome hF
  refine TL.eff rfl rfl (eff_call rfl gf_144 rfl (W_slices_IndexFunc_int64_int64_on_impl_areWithin_1 hr6 ((slRep.old ha2 he0 (Nat.le_refl _)).wide (Nat.le_refl _) (he0).size) hb3 hb4)) ?_
  rintro _ w7 ⟨rfl, hx8⟩
  have he9 : Ext w w7 := Ext.trans he0 hx8
  have hb3 := Box.ext hb3 hx8
  have hb4 := Box.ext hb4 hx8
  have hz10 := (hx8).size
  refine TL.yld rfl rfl (yld_geq rfl rfl rfl) ?_
  refine TL.yld rfl rfl (yld_assign rfl rfl) ?_
  refine TL.done ?_
  refine NX.seq ?_
  refine WC.ret' ?_
  obtain rfl := Option.some.inj hF
  exact NX.end (rs := [.tmp 4]) (vs := [.bool (decide (r5 ≥ 0))]) rfl ⟨rfl, trivial⟩ ⟨_, rfl, rfl, he9⟩

-- loop.example/g00861/impl.areWithin
def F_impl_areWithin (n : Nat) (a0_list : List Int) (a1_low : Int) (a2_high : Int) : Option Bool := (Option.bind (F_slices_ContainsFunc_int64_int64_on_impl_areWithin_1 n a0_list a1_low a2_high) fun r17 => (some (!r17)))
set_option maxHeartbeats 40000000 in
theorem W_impl_areWithin {n : Nat} {a0_list : List Int} {a1_low : Int} {a2_high : Int} {r : Bool} {w : World} {v1 : Value} (hF : F_impl_areWithin n a0_list a1_low a2_high = some r) (ha2 : slRep (cInt .i64) w (Iv 0 w.heap.size) a0_list v1) :
    Calls Tryd.prog 82 [v1, .int .i64 a1_low, .int .i64 a2_high].toArray w (Ret fun u w2 => u = .bool r ∧ Ext w w2) := by
  refine calls_of Tryd.func82 rfl Tryd.ntmps82 ?_
  have he0 : Ext w w := Ext.refl w
  unfold F_impl_areWithin at hF
  refine WC.seq ?_
  refine WC.region ?_
  refine TL.eff rfl rfl (eff_box rfl rfl) ?_
  rintro _ w4 ⟨b3, rfl, hn5⟩
  obtain ⟨hn5e, hn5s, hn5x, hb6⟩ := hn5
  have hb6 : Box w4 b3 [.int .i64 a1_low] 2 := hb6
  have he8 : Ext w w4 := Ext.trans he0 hn5x
  have hz9 := (hn5x).size
  have hlo7 : w.heap.size ≤ b3 := by rw [hn5e]; exact (he0).size
  refine TL.eff rfl rfl (eff_box rfl rfl) ?_
  rintro _ w11 ⟨b10, rfl, hn12⟩
  obtain ⟨hn12e, hn12s, hn12x, hb13⟩ := hn12
  have hb13 : Box w11 b10 [.int .i64 a2_high] 2 := hb13
  have he15 : Ext w w11 := Ext.trans he8 hn12x
  have hb6 := Box.ext hb6 hn12x
  have hz16 := (hn12x).size
  have hlo14 : w.heap.size ≤ b10 := by rw [hn12e]; exact (he8).size
  refine TL.yld rfl rfl (yld_assign rfl rfl) ?_
  refine TL.done ?_
  refine NX.seq ?_
  refine WC.seq ?_
  refine WC.region ?_
  refine TL.yld rfl rfl (yld_move rfl rfl) ?_
  refine TL.yld rfl rfl (yld_makeFunc rfl rfl rfl) ?_
  obtain ⟨r17, hr18, hF⟩ := bsome hF
  refine TL.eff rfl rfl (eff_call rfl gf_120 rfl (W_slices_ContainsFunc_int64_int64_on_impl_areWithin_1 hr18 ((slRep.old ha2 he15 (Nat.le_refl _)).wide (Nat.le_refl _) (he15).size) hb6 hb13)) ?_
  rintro _ w19 ⟨rfl, hx20⟩
  have he21 : Ext w w19 := Ext.trans he15 hx20
  have hb6 := Box.ext hb6 hx20
  have hb13 := Box.ext hb13 hx20
  have hz22 := (hx20).size
  refine TL.yld rfl rfl (yld_not rfl rfl) ?_
  refine TL.yld rfl rfl (yld_assign rfl rfl) ?_
  refine TL.done ?_
  refine NX.seq ?_
  refine WC.ret' ?_
  obtain rfl := Option.some.inj hF
  exact NX.end (rs := [.tmp 6]) (vs := [.bool (!r17)]) rfl ⟨rfl, trivial⟩ ⟨_, rfl, rfl, he21⟩

-- loop.example/g00861/impl.waveOf
def F_impl_waveOf : Nat → (List S_Clock) → Int → Option S_wave
  | 0 => fun _ _ => none
  | n + 1 => fun a0_list a1_k => (Option.bind (getI a0_list a1_k) fun x10 => (bif decide (x10.Source < 0) then (some ((S_wave.mk x10.Period ((A2_Int.mk x10.RiseAt x10.FallAt))))) else (Option.bind (F_impl_waveOf n a0_list x10.Source) fun r37 => (bif decide (x10.Divide > 1) then (bif x10.Invert then (some ((S_wave.mk (IntKind.wrap IntKind.i64 (x10.Divide * r37.period_)) ((A2_Int.mk (IntKind.wrap IntKind.i64 (r37.edges_.e0 + (IntKind.wrap IntKind.i64 ((IntKind.wrap IntKind.i64 (Int.tdiv x10.Divide 2)) * r37.period_)))) r37.edges_.e0))))) else (some ((S_wave.mk (IntKind.wrap IntKind.i64 (x10.Divide * r37.period_)) ((A2_Int.mk r37.edges_.e0 (IntKind.wrap IntKind.i64 (r37.edges_.e0 + (IntKind.wrap IntKind.i64 ((IntKind.wrap IntKind.i64 (Int.tdiv x10.Divide 2)) * r37.period_)))))))))) else (bif x10.Invert then (some ((S_wave.mk r37.period_ ((A2_Int.mk r37.edges_.e1 r37.edges_.e0))))) else (some r37))))))
theorem F_impl_waveOf_z (a0_list : List S_Clock) (a1_k : Int) : F_impl_waveOf 0 a0_list a1_k = none := rfl
theorem F_impl_waveOf_s (n : Nat) (a0_list : List S_Clock) (a1_k : Int) : F_impl_waveOf (n + 1) a0_list a1_k = (Option.bind (getI a0_list a1_k) fun x10 => (bif decide (x10.Source < 0) then (some ((S_wave.mk x10.Period ((A2_Int.mk x10.RiseAt x10.FallAt))))) else (Option.bind (F_impl_waveOf n a0_list x10.Source) fun r37 => (bif decide (x10.Divide > 1) then (bif x10.Invert then (some ((S_wave.mk (IntKind.wrap IntKind.i64 (x10.Divide * r37.period_)) ((A2_Int.mk (IntKind.wrap IntKind.i64 (r37.edges_.e0 + (IntKind.wrap IntKind.i64 ((IntKind.wrap IntKind.i64 (Int.tdiv x10.Divide 2)) * r37.period_)))) r37.edges_.e0))))) else (some ((S_wave.mk (IntKind.wrap IntKind.i64 (x10.Divide * r37.period_)) ((A2_Int.mk r37.edges_.e0 (IntKind.wrap IntKind.i64 (r37.edges_.e0 + (IntKind.wrap IntKind.i64 ((IntKind.wrap IntKind.i64 (Int.tdiv x10.Divide 2)) * r37.period_)))))))))) else (bif x10.Invert then (some ((S_wave.mk r37.period_ ((A2_Int.mk r37.edges_.e1 r37.edges_.e0))))) else (some r37)))))) := rfl
set_option maxHeartbeats 40000000 in
theorem W_impl_waveOf {n : Nat} {a0_list : List S_Clock} {a1_k : Int} {r : S_wave} {w : World} {v1 : Value} (hF : F_impl_waveOf n a0_list a1_k = some r) (ha2 : slRep C_Clock w (Iv 0 w.heap.size) a0_list v1) :
    Calls Tryd.prog 64 [v1, .int .i64 a1_k].toArray w (Ret fun u w2 => u = .agg #[.int .i64 r.period_, .int .i64 r.edges_.e0, .int .i64 r.edges_.e1] ∧ Ext w w2) := by
  cases n with
  | zero => rw [F_impl_waveOf_z] at hF; cases hF
  | succ n =>
    refine calls_of Tryd.func64 rfl Tryd.ntmps64 ?_
    have he0 : Ext w w := Ext.refl w
    rw [F_impl_waveOf_s] at hF
    refine WC.seq ?_
    refine WC.region ?_
    refine TL.eff rfl rfl (eff_alloc rfl zn_84) ?_
    rintro _ w4 ⟨b3, rfl, hn5⟩
    obtain ⟨hn5e, hn5s, hn5x, hb6⟩ := hn5
    have hb6 : Box w4 b3 [.int .i64 0, .int .i64 0, .int .i64 0] 84 := hb6
    have he8 : Ext w w4 := Ext.trans he0 hn5x
    have hz9 := (hn5x).size
    have hlo7 : w.heap.size ≤ b3 := by rw [hn5e]; exact (he0).size
    refine TL.done ?_
    refine NX.seq ?_
    refine WC.seq ?_
    refine WC.region ?_
    refine TL.yld rfl rfl (yld_move rfl rfl) ?_
    refine TL.yld rfl rfl (yld_move rfl rfl) ?_
    obtain ⟨x10, hy11, hF⟩ := bsome hF
    refine TL.ye rfl rfl (ye_index (c := C_Clock) rfl Tryd.underlying26 cn_75 rfl rfl (slRep.old ha2 he8 (Nat.le_refl _)) hy11) ?_
    rintro _ ⟨b12, o13, us14, rfl, hib17, hr15, hcl16⟩
    have hib17 : 0 ≤ b12 ∧ b12 < w.heap.size := ⟨hib17.1, by have := hib17.2; omega⟩
    obtain rfl := C_Clock_open hr15
    refine TL.yld rfl rfl (yld_loadN (us := [.string x10.Name, .int .i64 x10.Place, .int .i64 x10.Period, .int .i64 x10.RiseAt, .int .i64 x10.FallAt, .int .i64 x10.Source, .int .i64 x10.Divide, .bool x10.Invert, .int .i64 x10.EarlyLatency, .int .i64 x10.LateLatency, .int .i64 x10.Uncertainty]) rfl ag_75 rfl hcl16 cn_75) ?_
    refine TL.eff rfl rfl (eff_alloc rfl zn_75) ?_
    rintro _ w19 ⟨b18, rfl, hn20⟩
    obtain ⟨hn20e, hn20s, hn20x, hb21⟩ := hn20
    have hb21 : Box w19 b18 [.string ByteArray.empty, .int .i64 0, .int .i64 0, .int .i64 0, .int .i64 0, .int .i64 0, .int .i64 0, .bool false, .int .i64 0, .int .i64 0, .int .i64 0] 75 := hb21
    have he23 : Ext w w19 := Ext.trans he8 hn20x
    have hb6 := Box.ext hb6 hn20x
    have hz24 := (hn20x).size
    have hlo22 : w.heap.size ≤ b18 := by rw [hn20e]; exact (he8).size
    refine TL.eff rfl rfl (eff_store rfl rfl rfl hb21 cn_75 rfl rfl) ?_
    rintro _ w25 ⟨hu26, hb27⟩
    have he28 : Ext w w25 := Below.trans he23 (Upd.below hu26 (by omega))
    have hb6 := Box.upd hb6 hu26 (by omega)
    have hz29 := (hu26).size
    have hb21 : Box w25 b18 [.string x10.Name, .int .i64 x10.Place, .int .i64 x10.Period, .int .i64 x10.RiseAt, .int .i64 x10.FallAt, .int .i64 x10.Source, .int .i64 x10.Divide, .bool x10.Invert, .int .i64 x10.EarlyLatency, .int .i64 x10.LateLatency, .int .i64 x10.Uncertainty] 75 := hb27
    refine TL.done ?_
    refine NX.seq ?_
    refine WC.seq ?_
    refine WC.seq ?_
    refine WC.region ?_
    refine TL.yld rfl rfl (yld_fieldAddr rfl fo_75_5 rfl) ?_
    refine TL.yld rfl rfl (yld_load1 5 rfl ag_2 rfl (Box.cells hb21) rfl rfl) ?_
    refine TL.yld rfl rfl (yld_lss rfl rfl rfl) ?_
    refine TL.done ?_
    refine NX.seq ?_
    refine WC.cond rfl ?_ ?_
    · intro hc30
      replace hF := bif_t hc30 hF
      refine WC.seq ?_
      refine WC.region ?_
      refine TL.yld rfl rfl (yld_fieldAddr rfl fo_75_2 rfl) ?_
      refine TL.yld rfl rfl (yld_load1 2 rfl ag_2 rfl (Box.cells hb21) rfl rfl) ?_
      refine TL.yld rfl rfl (yld_fieldAddr rfl fo_75_3 rfl) ?_
      refine TL.yld rfl rfl (yld_load1 3 rfl ag_2 rfl (Box.cells hb21) rfl rfl) ?_
      refine TL.yld rfl rfl (yld_fieldAddr rfl fo_75_4 rfl) ?_
      refine TL.yld rfl rfl (yld_load1 4 rfl ag_2 rfl (Box.cells hb21) rfl rfl) ?_
      refine TL.yld rfl rfl (yld_build (uss := [(0, [.int .i64 x10.RiseAt]), (1, [.int .i64 x10.FallAt])]) (out := [.int .i64 x10.RiseAt, .int .i64 x10.FallAt]) rfl rfl zn_82 pl_82 rfl rfl) ?_
      refine TL.yld rfl rfl (yld_build (uss := [(0, [.int .i64 x10.Period]), (1, [.int .i64 x10.RiseAt, .int .i64 x10.FallAt])]) (out := [.int .i64 x10.Period, .int .i64 x10.RiseAt, .int .i64 x10.FallAt]) rfl rfl zn_84 pl_84 rfl rfl) ?_
      refine TL.eff rfl rfl (eff_store rfl rfl rfl hb6 cn_84 rfl rfl) ?_
      rintro _ w31 ⟨hu32, hb33⟩
      have he34 : Ext w w31 := Below.trans he28 (Upd.below hu32 (by omega))
      have hb21 := Box.upd hb21 hu32 (by omega)
      have hz35 := (hu32).size
      have hb6 : Box w31 b3 [.int .i64 x10.Period, .int .i64 x10.RiseAt, .int .i64 x10.FallAt] 84 := hb33
      refine TL.done ?_
      refine NX.seq ?_
      refine WC.ret' ?_
      refine NX.then_r ?_
      obtain rfl := Option.some.inj hF
      exact NX.end (rs := [.cell 4 84]) (vs := [.agg #[.int .i64 x10.Period, .int .i64 x10.RiseAt, .int .i64 x10.FallAt]]) rfl ⟨⟨b3, rfl, box_load ag_84 cn_84 hb6⟩, trivial⟩ ⟨_, rfl, rfl, he34⟩
    · intro hc36
      replace hF := bif_f hc36 hF
      refine WC.skip' ?_
      refine NX.seq ?_
      refine WC.seq ?_
      refine WC.region ?_
      refine TL.yld rfl rfl (yld_move rfl rfl) ?_
      refine TL.yld rfl rfl (yld_fieldAddr rfl fo_75_5 rfl) ?_
      refine TL.yld rfl rfl (yld_load1 5 rfl ag_2 rfl (Box.cells hb21) rfl rfl) ?_
      obtain ⟨r37, hr38, hF⟩ := bsome hF
      refine TL.eff rfl rfl (eff_call rfl gf_64 rfl (W_impl_waveOf hr38 ((slRep.old ha2 he28 (Nat.le_refl _)).wide (Nat.le_refl _) (he28).size))) ?_
      rintro _ w39 ⟨rfl, hx40⟩
      have he41 : Ext w w39 := Ext.trans he28 hx40
      have hb6 := Box.ext hb6 hx40
      have hb21 := Box.ext hb21 hx40
      have hz42 := (hx40).size
      refine TL.eff rfl rfl (eff_alloc rfl zn_84) ?_
      rintro _ w44 ⟨b43, rfl, hn45⟩
      obtain ⟨hn45e, hn45s, hn45x, hb46⟩ := hn45
      have hb46 : Box w44 b43 [.int .i64 0, .int .i64 0, .int .i64 0] 84 := hb46
      have he48 : Ext w w44 := Ext.trans he41 hn45x
      have hb6 := Box.ext hb6 hn45x
      have hb21 := Box.ext hb21 hn45x
      have hz49 := (hn45x).size
      have hlo47 : w.heap.size ≤ b43 := by rw [hn45e]; exact (he41).size
      refine TL.eff rfl rfl (eff_store rfl rfl rfl hb46 cn_84 rfl rfl) ?_
      rintro _ w50 ⟨hu51, hb52⟩
      have he53 : Ext w w50 := Below.trans he48 (Upd.below hu51 (by omega))
      have hb6 := Box.upd hb6 hu51 (by omega)
      have hb21 := Box.upd hb21 hu51 (by omega)
      have hz54 := (hu51).size
      have hb46 : Box w50 b43 [.int .i64 r37.period_, .int .i64 r37.edges_.e0, .int .i64 r37.edges_.e1] 84 := hb52
      refine TL.done ?_
      refine NX.seq ?_
      refine WC.seq ?_
      refine WC.seq ?_
      refine WC.region ?_
      refine TL.yld rfl rfl (yld_fieldAddr rfl fo_75_6 rfl) ?_
      refine TL.yld rfl rfl (yld_load1 6 rfl ag_2 rfl (Box.cells hb21) rfl rfl) ?_
      refine TL.yld rfl rfl (yld_gtr rfl rfl rfl) ?_
      refine TL.done ?_
      refine NX.seq ?_
      refine WC.cond rfl ?_ ?_
      · intro hc55
        replace hF := bif_t hc55 hF
        refine WC.seq ?_
        refine WC.region ?_
        refine TL.yld rfl rfl (yld_fieldAddr rfl fo_84_1 rfl) ?_
        refine TL.yld rfl rfl (yld_indexArr rfl Tryd.underlying82 cn_2 rfl rfl (by decide)) ?_
        refine TL.yld rfl rfl (yld_load1 1 rfl ag_2 rfl (Box.cells hb46) rfl rfl) ?_
        refine TL.yld rfl rfl (yld_assign rfl rfl) ?_
        refine TL.done ?_
        refine NX.seq ?_
        refine WC.region ?_
        refine TL.yld rfl rfl (yld_fieldAddr rfl fo_75_6 rfl) ?_
        refine TL.yld rfl rfl (yld_load1 6 rfl ag_2 rfl (Box.cells hb21) rfl rfl) ?_
        refine TL.yld rfl rfl (yld_fieldAddr rfl fo_84_0 rfl) ?_
        refine TL.yld rfl rfl (yld_load1 0 rfl ag_2 rfl (Box.cells hb46) rfl rfl) ?_
        refine TL.yld rfl rfl (yld_mul rfl rfl rfl) ?_
        refine TL.yld rfl rfl (yld_move rfl rfl) ?_
        refine TL.yld rfl rfl (yld_move rfl rfl) ?_
        refine TL.yld rfl rfl (yld_fieldAddr rfl fo_75_6 rfl) ?_
        refine TL.yld rfl rfl (yld_load1 6 rfl ag_2 rfl (Box.cells hb21) rfl rfl) ?_
        refine TL.yld rfl rfl (yld_quo rfl rfl rfl (by decide)) ?_
        refine TL.yld rfl rfl (yld_fieldAddr rfl fo_84_0 rfl) ?_
        refine TL.yld rfl rfl (yld_load1 0 rfl ag_2 rfl (Box.cells hb46) rfl rfl) ?_
        refine TL.yld rfl rfl (yld_mul rfl rfl rfl) ?_
        refine TL.yld rfl rfl (yld_add rfl rfl rfl) ?_
        refine TL.yld rfl rfl (yld_build (uss := [(0, [.int .i64 r37.edges_.e0]), (1, [.int .i64 (IntKind.wrap IntKind.i64 (r37.edges_.e0 + (IntKind.wrap IntKind.i64 ((IntKind.wrap IntKind.i64 (Int.tdiv x10.Divide 2)) * r37.period_))))])]) (out := [.int .i64 r37.edges_.e0, .int .i64 (IntKind.wrap IntKind.i64 (r37.edges_.e0 + (IntKind.wrap IntKind.i64 ((IntKind.wrap IntKind.i64 (Int.tdiv x10.Divide 2)) * r37.period_))))]) rfl rfl zn_82 pl_82 rfl rfl) ?_
        refine TL.yld rfl rfl (yld_build (uss := [(0, [.int .i64 (IntKind.wrap IntKind.i64 (x10.Divide * r37.period_))]), (1, [.int .i64 r37.edges_.e0, .int .i64 (IntKind.wrap IntKind.i64 (r37.edges_.e0 + (IntKind.wrap IntKind.i64 ((IntKind.wrap IntKind.i64 (Int.tdiv x10.Divide 2)) * r37.period_))))])]) (out := [.int .i64 (IntKind.wrap IntKind.i64 (x10.Divide * r37.period_)), .int .i64 r37.edges_.e0, .int .i64 (IntKind.wrap IntKind.i64 (r37.edges_.e0 + (IntKind.wrap IntKind.i64 ((IntKind.wrap IntKind.i64 (Int.tdiv x10.Divide 2)) * r37.period_))))]) rfl rfl zn_84 pl_84 rfl rfl) ?_
        refine TL.eff rfl rfl (eff_store rfl rfl rfl hb46 cn_84 rfl rfl) ?_
        rintro _ w56 ⟨hu57, hb58⟩
        have he59 : Ext w w56 := Below.trans he53 (Upd.below hu57 (by omega))
        have hb6 := Box.upd hb6 hu57 (by omega)
        have hb21 := Box.upd hb21 hu57 (by omega)
        have hz60 := (hu57).size
        have hb46 : Box w56 b43 [.int .i64 (IntKind.wrap IntKind.i64 (x10.Divide * r37.period_)), .int .i64 r37.edges_.e0, .int .i64 (IntKind.wrap IntKind.i64 (r37.edges_.e0 + (IntKind.wrap IntKind.i64 ((IntKind.wrap IntKind.i64 (Int.tdiv x10.Divide 2)) * r37.period_))))] 84 := hb58
        refine TL.done ?_
        refine NX.seq ?_
        refine WC.seq ?_
        refine WC.seq ?_
        refine WC.region ?_
        refine TL.yld rfl rfl (yld_fieldAddr rfl fo_75_7 rfl) ?_
        refine TL.yld rfl rfl (yld_load1 7 rfl ag_4 rfl (Box.cells hb21) rfl rfl) ?_
        refine TL.done ?_
        refine NX.seq ?_
        refine WC.cond rfl ?_ ?_
        · intro hc61
          replace hF := bif_t hc61 hF
          refine WC.region ?_
          refine TL.yld rfl rfl (yld_fieldAddr rfl fo_84_1 rfl) ?_
          refine TL.yld rfl rfl (yld_indexArr rfl Tryd.underlying82 cn_2 rfl rfl (by decide)) ?_
          refine TL.yld rfl rfl (yld_load1 2 rfl ag_2 rfl (Box.cells hb46) rfl rfl) ?_
          refine TL.yld rfl rfl (yld_fieldAddr rfl fo_84_1 rfl) ?_
          refine TL.yld rfl rfl (yld_indexArr rfl Tryd.underlying82 cn_2 rfl rfl (by decide)) ?_
          refine TL.yld rfl rfl (yld_load1 1 rfl ag_2 rfl (Box.cells hb46) rfl rfl) ?_
          refine TL.yld rfl rfl (yld_fieldAddr rfl fo_84_1 rfl) ?_
          refine TL.yld rfl rfl (yld_indexArr rfl Tryd.underlying82 cn_2 rfl rfl (by decide)) ?_
          refine TL.eff rfl rfl (eff_store rfl rfl rfl hb46 cn_2 rfl rfl) ?_
          rintro _ w62 ⟨hu63, hb64⟩
          have he65 : Ext w w62 := Below.trans he59 (Upd.below hu63 (by omega))
          have hb6 := Box.upd hb6 hu63 (by omega)
          have hb21 := Box.upd hb21 hu63 (by omega)
          have hz66 := (hu63).size
          have hb46 : Box w62 b43 [.int .i64 (IntKind.wrap IntKind.i64 (x10.Divide * r37.period_)), .int .i64 (IntKind.wrap IntKind.i64 (r37.edges_.e0 + (IntKind.wrap IntKind.i64 ((IntKind.wrap IntKind.i64 (Int.tdiv x10.Divide 2)) * r37.period_)))), .int .i64 (IntKind.wrap IntKind.i64 (r37.edges_.e0 + (IntKind.wrap IntKind.i64 ((IntKind.wrap IntKind.i64 (Int.tdiv x10.Divide 2)) * r37.period_))))] 84 := hb64
          refine TL.yld rfl rfl (yld_fieldAddr rfl fo_84_1 rfl) ?_
          refine TL.yld rfl rfl (yld_indexArr rfl Tryd.underlying82 cn_2 rfl rfl (by decide)) ?_
          refine TL.eff rfl rfl (eff_store rfl rfl rfl hb46 cn_2 rfl rfl) ?_
          rintro _ w67 ⟨hu68, hb69⟩
          have he70 : Ext w w67 := Below.trans he65 (Upd.below hu68 (by omega))
          have hb6 := Box.upd hb6 hu68 (by omega)
          have hb21 := Box.upd hb21 hu68 (by omega)
          have hz71 := (hu68).size
          have hb46 : Box w67 b43 [.int .i64 (IntKind.wrap IntKind.i64 (x10.Divide * r37.period_)), .int .i64 (IntKind.wrap IntKind.i64 (r37.edges_.e0 + (IntKind.wrap IntKind.i64 ((IntKind.wrap IntKind.i64 (Int.tdiv x10.Divide 2)) * r37.period_)))), .int .i64 r37.edges_.e0] 84 := hb69
          refine TL.done ?_
          refine NX.seq ?_
          refine WC.seq ?_
          refine WC.region ?_
          refine TL.yld rfl rfl (yld_loadN (us := [.int .i64 (IntKind.wrap IntKind.i64 (x10.Divide * r37.period_)), .int .i64 (IntKind.wrap IntKind.i64 (r37.edges_.e0 + (IntKind.wrap IntKind.i64 ((IntKind.wrap IntKind.i64 (Int.tdiv x10.Divide 2)) * r37.period_)))), .int .i64 r37.edges_.e0]) rfl ag_84 rfl (Box.cells hb46) cn_84) ?_
          refine TL.eff rfl rfl (eff_store rfl rfl rfl hb6 cn_84 rfl rfl) ?_
          rintro _ w72 ⟨hu73, hb74⟩
          have he75 : Ext w w72 := Below.trans he70 (Upd.below hu73 (by omega))
          have hb21 := Box.upd hb21 hu73 (by omega)
          have hb46 := Box.upd hb46 hu73 (by omega)
          have hz76 := (hu73).size
          have hb6 : Box w72 b3 [.int .i64 (IntKind.wrap IntKind.i64 (x10.Divide * r37.period_)), .int .i64 (IntKind.wrap IntKind.i64 (r37.edges_.e0 + (IntKind.wrap IntKind.i64 ((IntKind.wrap IntKind.i64 (Int.tdiv x10.Divide 2)) * r37.period_)))), .int .i64 r37.edges_.e0] 84 := hb74
          refine TL.done ?_
          refine NX.seq ?_
          refine WC.ret' ?_
          obtain rfl := Option.some.inj hF
          exact NX.end (rs := [.cell 4 84]) (vs := [.agg #[.int .i64 (IntKind.wrap IntKind.i64 (x10.Divide * r37.period_)), .int .i64 (IntKind.wrap IntKind.i64 (r37.edges_.e0 + (IntKind.wrap IntKind.i64 ((IntKind.wrap IntKind.i64 (Int.tdiv x10.Divide 2)) * r37.period_)))), .int .i64 r37.edges_.e0]]) rfl ⟨⟨b3, rfl, box_load ag_84 cn_84 hb6⟩, trivial⟩ ⟨_, rfl, rfl, he75⟩
        · intro hc77
          replace hF := bif_f hc77 hF
          refine WC.skip' ?_
          refine NX.seq ?_
          refine WC.seq ?_
          refine WC.region ?_
          refine TL.yld rfl rfl (yld_loadN (us := [.int .i64 (IntKind.wrap IntKind.i64 (x10.Divide * r37.period_)), .int .i64 r37.edges_.e0, .int .i64 (IntKind.wrap IntKind.i64 (r37.edges_.e0 + (IntKind.wrap IntKind.i64 ((IntKind.wrap IntKind.i64 (Int.tdiv x10.Divide 2)) * r37.period_))))]) rfl ag_84 rfl (Box.cells hb46) cn_84) ?_
          refine TL.eff rfl rfl (eff_store rfl rfl rfl hb6 cn_84 rfl rfl) ?_
          rintro _ w78 ⟨hu79, hb80⟩
          have he81 : Ext w w78 := Below.trans he59 (Upd.below hu79 (by omega))
          have hb21 := Box.upd hb21 hu79 (by omega)
          have hb46 := Box.upd hb46 hu79 (by omega)
          have hz82 := (hu79).size
          have hb6 : Box w78 b3 [.int .i64 (IntKind.wrap IntKind.i64 (x10.Divide * r37.period_)), .int .i64 r37.edges_.e0, .int .i64 (IntKind.wrap IntKind.i64 (r37.edges_.e0 + (IntKind.wrap IntKind.i64 ((IntKind.wrap IntKind.i64 (Int.tdiv x10.Divide 2)) * r37.period_))))] 84 := hb80
          refine TL.done ?_
          refine NX.seq ?_
          refine WC.ret' ?_
          obtain rfl := Option.some.inj hF
          exact NX.end (rs := [.cell 4 84]) (vs := [.agg #[.int .i64 (IntKind.wrap IntKind.i64 (x10.Divide * r37.period_)), .int .i64 r37.edges_.e0, .int .i64 (IntKind.wrap IntKind.i64 (r37.edges_.e0 + (IntKind.wrap IntKind.i64 ((IntKind.wrap IntKind.i64 (Int.tdiv x10.Divide 2)) * r37.period_))))]]) rfl ⟨⟨b3, rfl, box_load ag_84 cn_84 hb6⟩, trivial⟩ ⟨_, rfl, rfl, he81⟩
      · intro hc83
        replace hF := bif_f hc83 hF
        refine WC.skip' ?_
        refine NX.seq ?_
        refine WC.seq ?_
        refine WC.seq ?_
        refine WC.region ?_
        refine TL.yld rfl rfl (yld_fieldAddr rfl fo_75_7 rfl) ?_
        refine TL.yld rfl rfl (yld_load1 7 rfl ag_4 rfl (Box.cells hb21) rfl rfl) ?_
        refine TL.done ?_
        refine NX.seq ?_
        refine WC.cond rfl ?_ ?_
        · intro hc84
          replace hF := bif_t hc84 hF
          refine WC.region ?_
          refine TL.yld rfl rfl (yld_fieldAddr rfl fo_84_1 rfl) ?_
          refine TL.yld rfl rfl (yld_indexArr rfl Tryd.underlying82 cn_2 rfl rfl (by decide)) ?_
          refine TL.yld rfl rfl (yld_load1 2 rfl ag_2 rfl (Box.cells hb46) rfl rfl) ?_
          refine TL.yld rfl rfl (yld_fieldAddr rfl fo_84_1 rfl) ?_
          refine TL.yld rfl rfl (yld_indexArr rfl Tryd.underlying82 cn_2 rfl rfl (by decide)) ?_
          refine TL.yld rfl rfl (yld_load1 1 rfl ag_2 rfl (Box.cells hb46) rfl rfl) ?_
          refine TL.yld rfl rfl (yld_fieldAddr rfl fo_84_1 rfl) ?_
          refine TL.yld rfl rfl (yld_indexArr rfl Tryd.underlying82 cn_2 rfl rfl (by decide)) ?_
          refine TL.eff rfl rfl (eff_store rfl rfl rfl hb46 cn_2 rfl rfl) ?_
          rintro _ w85 ⟨hu86, hb87⟩
          have he88 : Ext w w85 := Below.trans he53 (Upd.below hu86 (by omega))
          have hb6 := Box.upd hb6 hu86 (by omega)
          have hb21 := Box.upd hb21 hu86 (by omega)
          have hz89 := (hu86).size
          have hb46 : Box w85 b43 [.int .i64 r37.period_, .int .i64 r37.edges_.e1, .int .i64 r37.edges_.e1] 84 := hb87
          refine TL.yld rfl rfl (yld_fieldAddr rfl fo_84_1 rfl) ?_
          refine TL.yld rfl rfl (yld_indexArr rfl Tryd.underlying82 cn_2 rfl rfl (by decide)) ?_
          refine TL.eff rfl rfl (eff_store rfl rfl rfl hb46 cn_2 rfl rfl) ?_
          rintro _ w90 ⟨hu91, hb92⟩
          have he93 : Ext w w90 := Below.trans he88 (Upd.below hu91 (by omega))
          have hb6 := Box.upd hb6 hu91 (by omega)
          have hb21 := Box.upd hb21 hu91 (by omega)
          have hz94 := (hu91).size
          have hb46 : Box w90 b43 [.int .i64 r37.period_, .int .i64 r37.edges_.e1, .int .i64 r37.edges_.e0] 84 := hb92
          refine TL.done ?_
          refine NX.seq ?_
          refine WC.seq ?_
          refine WC.region ?_
          refine TL.yld rfl rfl (yld_loadN (us := [.int .i64 r37.period_, .int .i64 r37.edges_.e1, .int .i64 r37.edges_.e0]) rfl ag_84 rfl (Box.cells hb46) cn_84) ?_
          refine TL.eff rfl rfl (eff_store rfl rfl rfl hb6 cn_84 rfl rfl) ?_
          rintro _ w95 ⟨hu96, hb97⟩
          have he98 : Ext w w95 := Below.trans he93 (Upd.below hu96 (by omega))
          have hb21 := Box.upd hb21 hu96 (by omega)
          have hb46 := Box.upd hb46 hu96 (by omega)
          have hz99 := (hu96).size
          have hb6 : Box w95 b3 [.int .i64 r37.period_, .int .i64 r37.edges_.e1, .int .i64 r37.edges_.e0] 84 := hb97
          refine TL.done ?_
          refine NX.seq ?_
          refine WC.ret' ?_
          obtain rfl := Option.some.inj hF
          exact NX.end (rs := [.cell 4 84]) (vs := [.agg #[.int .i64 r37.period_, .int .i64 r37.edges_.e1, .int .i64 r37.edges_.e0]]) rfl ⟨⟨b3, rfl, box_load ag_84 cn_84 hb6⟩, trivial⟩ ⟨_, rfl, rfl, he98⟩
        · intro hc100
          replace hF := bif_f hc100 hF
          refine WC.skip' ?_
          refine NX.seq ?_
          refine WC.seq ?_
          refine WC.region ?_
          refine TL.yld rfl rfl (yld_loadN (us := [.int .i64 r37.period_, .int .i64 r37.edges_.e0, .int .i64 r37.edges_.e1]) rfl ag_84 rfl (Box.cells hb46) cn_84) ?_
          refine TL.eff rfl rfl (eff_store rfl rfl rfl hb6 cn_84 rfl rfl) ?_
          rintro _ w101 ⟨hu102, hb103⟩
          have he104 : Ext w w101 := Below.trans he53 (Upd.below hu102 (by omega))
          have hb21 := Box.upd hb21 hu102 (by omega)
          have hb46 := Box.upd hb46 hu102 (by omega)
          have hz105 := (hu102).size
          have hb6 : Box w101 b3 [.int .i64 r37.period_, .int .i64 r37.edges_.e0, .int .i64 r37.edges_.e1] 84 := hb103
          refine TL.done ?_
          refine NX.seq ?_
          refine WC.ret' ?_
          obtain rfl := Option.some.inj hF
          exact NX.end (rs := [.cell 4 84]) (vs := [.agg #[.int .i64 r37.period_, .int .i64 r37.edges_.e0, .int .i64 r37.edges_.e1]]) rfl ⟨⟨b3, rfl, box_load ag_84 cn_84 hb6⟩, trivial⟩ ⟨_, rfl, rfl, he104⟩
termination_by n

-- (loop.example/g00861/impl.Clock).isPrimary
def F_impl_Clock_isPrimary (n : Nat) (a0_c : S_Clock) : Option Bool := (Option.bind (F_impl_within n a0_c.Period 2 100000) fun r8 => (Option.bind (bif r8 then (Option.bind (F_impl_within n a0_c.RiseAt 0 (IntKind.wrap IntKind.i64 (a0_c.Period - 1))) fun r14 => (some r14)) else (some false)) fun c14 => (Option.bind (bif c14 then (Option.bind (F_impl_within n a0_c.FallAt 0 (IntKind.wrap IntKind.i64 (a0_c.Period - 1))) fun r27 => (some r27)) else (some false)) fun c27 => (some ((((((c27 && ((a0_c.RiseAt != a0_c.FallAt)))) && ((a0_c.Divide == 1)))) && (!a0_c.Invert)))))))
set_option maxHeartbeats 40000000 in
theorem W_impl_Clock_isPrimary {n : Nat} {a0_c : S_Clock} {r : Bool} {w : World} (hF : F_impl_Clock_isPrimary n a0_c = some r) :
    Calls Tryd.prog 149 [.agg #[.string a0_c.Name, .int .i64 a0_c.Place, .int .i64 a0_c.Period, .int .i64 a0_c.RiseAt, .int .i64 a0_c.FallAt, .int .i64 a0_c.Source, .int .i64 a0_c.Divide, .bool a0_c.Invert, .int .i64 a0_c.EarlyLatency, .int .i64 a0_c.LateLatency, .int .i64 a0_c.Uncertainty]].toArray w (Ret fun u w2 => u = .bool r ∧ Ext w w2) := by
  refine calls_of Tryd.func149 rfl Tryd.ntmps149 ?_
  have he0 : Ext w w := Ext.refl w
  unfold F_impl_Clock_isPrimary at hF
  refine WC.seq ?_
  refine WC.region ?_
  refine TL.eff rfl rfl (eff_box rfl rfl) ?_
  rintro _ w2 ⟨b1, rfl, hn3⟩
  obtain ⟨hn3e, hn3s, hn3x, hb4⟩ := hn3
  have hb4 : Box w2 b1 [.string a0_c.Name, .int .i64 a0_c.Place, .int .i64 a0_c.Period, .int .i64 a0_c.RiseAt, .int .i64 a0_c.FallAt, .int .i64 a0_c.Source, .int .i64 a0_c.Divide, .bool a0_c.Invert, .int .i64 a0_c.EarlyLatency, .int .i64 a0_c.LateLatency, .int .i64 a0_c.Uncertainty] 75 := hb4
  have he6 : Ext w w2 := Ext.trans he0 hn3x
  have hz7 := (hn3x).size
  have hlo5 : w.heap.size ≤ b1 := by rw [hn3e]; exact (he0).size
  refine TL.yld rfl rfl (yld_assign rfl rfl) ?_
  refine TL.done ?_
  refine NX.seq ?_
  refine WC.seq ?_
  refine WC.region ?_
  refine TL.yld rfl rfl (yld_fieldAddr rfl fo_75_2 rfl) ?_
  refine TL.yld rfl rfl (yld_load1 2 rfl ag_2 rfl (Box.cells hb4) rfl rfl) ?_
  obtain ⟨r8, hr9, hF⟩ := bsome hF
  refine TL.eff rfl rfl (eff_call rfl gf_54 rfl (W_impl_within hr9)) ?_
  rintro _ w10 ⟨rfl, hx11⟩
  have he12 : Ext w w10 := Ext.trans he6 hx11
  have hb4 := Box.ext hb4 hx11
  have hz13 := (hx11).size
  refine TL.yld rfl rfl (yld_move rfl rfl) ?_
  obtain ⟨c14, hb15, hF⟩ := bsome hF
  refine TL.cut 7 [(1, .pointer (some ⟨b1, 0, none⟩)), (13, .bool c14)] (fun w' => Ext w10 w') ?_ ?_
  · rcases Bool.eq_false_or_eq_true r8 with hg16 | hg16
    ·
      rw [hg16] at hb15; simp only [cond_true, cond_false] at hb15
      replace hF := hb15
      refine TL.gy (j := 3) (t := 6) rfl rfl rfl hg16 rfl (yld_fieldAddr rfl fo_75_3 rfl) ?_
      refine TL.gy (j := 3) (t := 6) rfl rfl rfl hg16 rfl (yld_load1 3 rfl ag_2 rfl (Box.cells hb4) rfl rfl) ?_
      refine TL.gy (j := 3) (t := 6) rfl rfl rfl hg16 rfl (yld_fieldAddr rfl fo_75_2 rfl) ?_
      refine TL.gy (j := 3) (t := 6) rfl rfl rfl hg16 rfl (yld_load1 2 rfl ag_2 rfl (Box.cells hb4) rfl rfl) ?_
      refine TL.gy (j := 3) (t := 6) rfl rfl rfl hg16 rfl (yld_sub rfl rfl rfl) ?_
      obtain ⟨r17, hr18, hF⟩ := bsome hF
      refine TL.ge (j := 3) (t := 6) rfl rfl rfl hg16 rfl (eff_call rfl gf_54 rfl (W_impl_within hr18)) ?_
      rintro _ w19 ⟨rfl, hx20⟩
      have he21 : Ext w w19 := Ext.trans he12 hx20
      have hb4 := Box.ext hb4 hx20
      have hz22 := (hx20).size
      obtain rfl := Option.some.inj hF
      refine TL.yld rfl rfl (yld_pick_t rfl rfl hg16 rfl) ?_
      exact TL.nil fun a h => ⟨h.weaken ⟨rfl, rfl, trivial⟩, hx20⟩
    ·
      rw [hg16] at hb15; simp only [cond_true, cond_false] at hb15
      refine TL.gnu (j := 3) (t := 6) rfl rfl rfl hg16 rfl ?_
      refine TL.gnu (j := 3) (t := 6) rfl rfl rfl hg16 rfl ?_
      refine TL.gnu (j := 3) (t := 6) rfl rfl rfl hg16 rfl ?_
      refine TL.gnu (j := 3) (t := 6) rfl rfl rfl hg16 rfl ?_
      refine TL.gnu (j := 3) (t := 6) rfl rfl rfl hg16 rfl ?_
      refine TL.gnu (j := 3) (t := 6) rfl rfl rfl hg16 rfl ?_
      obtain rfl := Option.some.inj hb15
      refine TL.yld rfl rfl (yld_pick_f rfl rfl hg16 rfl) ?_
      exact TL.nil fun a h => ⟨h.weaken ⟨rfl, rfl, trivial⟩, Ext.refl _⟩
  intro w23 hx24
  have he25 : Ext w w23 := Ext.trans he12 hx24
  have hb4 := Box.ext hb4 hx24
  have hz26 := (hx24).size
  refine TL.yld rfl rfl (yld_move rfl rfl) ?_
  obtain ⟨c27, hb28, hF⟩ := bsome hF
  refine TL.cut 7 [(1, .pointer (some ⟨b1, 0, none⟩)), (21, .bool c27)] (fun w' => Ext w23 w') ?_ ?_
  · rcases Bool.eq_false_or_eq_true c14 with hg29 | hg29
    ·
      rw [hg29] at hb28; simp only [cond_true, cond_false] at hb28
      replace hF := hb28
      refine TL.gy (j := 11) (t := 14) rfl rfl rfl hg29 rfl (yld_fieldAddr rfl fo_75_4 rfl) ?_
      refine TL.gy (j := 11) (t := 14) rfl rfl rfl hg29 rfl (yld_load1 4 rfl ag_2 rfl (Box.cells hb4) rfl rfl) ?_
      refine TL.gy (j := 11) (t := 14) rfl rfl rfl hg29 rfl (yld_fieldAddr rfl fo_75_2 rfl) ?_
      refine TL.gy (j := 11) (t := 14) rfl rfl rfl hg29 rfl (yld_load1 2 rfl ag_2 rfl (Box.cells hb4) rfl rfl) ?_
      refine TL.gy (j := 11) (t := 14) rfl rfl rfl hg29 rfl (yld_sub rfl rfl rfl) ?_
      obtain ⟨r30, hr31, hF⟩ := bsome hF
      refine TL.ge (j := 11) (t := 14) rfl rfl rfl hg29 rfl (eff_call rfl gf_54 rfl (W_impl_within hr31)) ?_
      rintro _ w32 ⟨rfl, hx33⟩
      have he34 : Ext w w32 := Ext.trans he25 hx33
      have hb4 := Box.ext hb4 hx33
      have hz35 := (hx33).size
      obtain rfl := Option.some.inj hF
      refine TL.yld rfl rfl (yld_pick_t rfl rfl hg29 rfl) ?_
      exact TL.nil fun a h => ⟨h.weaken ⟨rfl, rfl, trivial⟩, hx33⟩
    ·
      rw [hg29] at hb28; simp only [cond_true, cond_false] at hb28
      refine TL.gnu (j := 11) (t := 14) rfl rfl rfl hg29 rfl ?_
      refine TL.gnu (j := 11) (t := 14) rfl rfl rfl hg29 rfl ?_
      refine TL.gnu (j := 11) (t := 14) rfl rfl rfl hg29 rfl ?_
      refine TL.gnu (j := 11) (t := 14) rfl rfl rfl hg29 rfl ?_
      refine TL.gnu (j := 11) (t := 14) rfl rfl rfl hg29 rfl ?_
      refine TL.gnu (j := 11) (t := 14) rfl rfl rfl hg29 rfl ?_
      obtain rfl := Option.some.inj hb28
      refine TL.yld rfl rfl (yld_pick_f rfl rfl hg29 rfl) ?_
      exact TL.nil fun a h => ⟨h.weaken ⟨rfl, rfl, trivial⟩, Ext.refl _⟩
  intro w36 hx37
  have he38 : Ext w w36 := Ext.trans he25 hx37
  have hb4 := Box.ext hb4 hx37
  have hz39 := (hx37).size
  refine TL.yld rfl rfl (yld_move rfl rfl) ?_
  refine TL.cut 6 [(1, .pointer (some ⟨b1, 0, none⟩)), (28, .bool ((c27 && ((a0_c.RiseAt != a0_c.FallAt)))))] (fun w' => Ext w36 w') ?_ ?_
  · rcases Bool.eq_false_or_eq_true c27 with hg40 | hg40
    ·
      refine TL.gy (j := 19) (t := 22) rfl rfl rfl hg40 rfl (yld_fieldAddr rfl fo_75_3 rfl) ?_
      refine TL.gy (j := 19) (t := 22) rfl rfl rfl hg40 rfl (yld_load1 3 rfl ag_2 rfl (Box.cells hb4) rfl rfl) ?_
      refine TL.gy (j := 19) (t := 22) rfl rfl rfl hg40 rfl (yld_fieldAddr rfl fo_75_4 rfl) ?_
      refine TL.gy (j := 19) (t := 22) rfl rfl rfl hg40 rfl (yld_load1 4 rfl ag_2 rfl (Box.cells hb4) rfl rfl) ?_
      refine TL.gy (j := 19) (t := 22) rfl rfl rfl hg40 rfl (yld_neq rfl rfl rfl) ?_
      refine TL.yld rfl rfl (yld_and_t rfl rfl hg40 rfl) ?_
      exact TL.nil fun a h => ⟨h.weaken ⟨rfl, rfl, trivial⟩, Ext.refl _⟩
    ·
      refine TL.gnu (j := 19) (t := 22) rfl rfl rfl hg40 rfl ?_
      refine TL.gnu (j := 19) (t := 22) rfl rfl rfl hg40 rfl ?_
      refine TL.gnu (j := 19) (t := 22) rfl rfl rfl hg40 rfl ?_
      refine TL.gnu (j := 19) (t := 22) rfl rfl rfl hg40 rfl ?_
      refine TL.gnu (j := 19) (t := 22) rfl rfl rfl hg40 rfl ?_
      refine TL.yld rfl rfl (yld_and_f (b2 := (a0_c.RiseAt != a0_c.FallAt)) rfl rfl hg40 rfl) ?_
      exact TL.nil fun a h => ⟨h.weaken ⟨rfl, rfl, trivial⟩, Ext.refl _⟩
  intro w41 hx42
  have he43 : Ext w w41 := Ext.trans he38 hx42
  have hb4 := Box.ext hb4 hx42
  have hz44 := (hx42).size
  refine TL.yld rfl rfl (yld_move rfl rfl) ?_
  refine TL.cut 4 [(1, .pointer (some ⟨b1, 0, none⟩)), (33, .bool ((((c27 && ((a0_c.RiseAt != a0_c.FallAt)))) && ((a0_c.Divide == 1)))))] (fun w' => Ext w41 w') ?_ ?_
  · rcases Bool.eq_false_or_eq_true ((c27 && ((a0_c.RiseAt != a0_c.FallAt)))) with hg45 | hg45
    ·
      refine TL.gy (j := 26) (t := 29) rfl rfl rfl hg45 rfl (yld_fieldAddr rfl fo_75_6 rfl) ?_
      refine TL.gy (j := 26) (t := 29) rfl rfl rfl hg45 rfl (yld_load1 6 rfl ag_2 rfl (Box.cells hb4) rfl rfl) ?_
      refine TL.gy (j := 26) (t := 29) rfl rfl rfl hg45 rfl (yld_eql rfl rfl rfl) ?_
      refine TL.yld rfl rfl (yld_and_t rfl rfl hg45 rfl) ?_
      exact TL.nil fun a h => ⟨h.weaken ⟨rfl, rfl, trivial⟩, Ext.refl _⟩
    ·
      refine TL.gnu (j := 26) (t := 29) rfl rfl rfl hg45 rfl ?_
      refine TL.gnu (j := 26) (t := 29) rfl rfl rfl hg45 rfl ?_
      refine TL.gnu (j := 26) (t := 29) rfl rfl rfl hg45 rfl ?_
      refine TL.yld rfl rfl (yld_and_f (b2 := (a0_c.Divide == 1)) rfl rfl hg45 rfl) ?_
      exact TL.nil fun a h => ⟨h.weaken ⟨rfl, rfl, trivial⟩, Ext.refl _⟩
  intro w46 hx47
  have he48 : Ext w w46 := Ext.trans he43 hx47
  have hb4 := Box.ext hb4 hx47
  have hz49 := (hx47).size
  refine TL.yld rfl rfl (yld_move rfl rfl) ?_
  refine TL.cut 4 [(38, .bool ((((((c27 && ((a0_c.RiseAt != a0_c.FallAt)))) && ((a0_c.Divide == 1)))) && (!a0_c.Invert))))] (fun w' => Ext w46 w') ?_ ?_
  · rcases Bool.eq_false_or_eq_true ((((c27 && ((a0_c.RiseAt != a0_c.FallAt)))) && ((a0_c.Divide == 1)))) with hg50 | hg50
    ·
      refine TL.gy (j := 31) (t := 34) rfl rfl rfl hg50 rfl (yld_fieldAddr rfl fo_75_7 rfl) ?_
      refine TL.gy (j := 31) (t := 34) rfl rfl rfl hg50 rfl (yld_load1 7 rfl ag_4 rfl (Box.cells hb4) rfl rfl) ?_
      refine TL.gy (j := 31) (t := 34) rfl rfl rfl hg50 rfl (yld_not rfl rfl) ?_
      refine TL.yld rfl rfl (yld_and_t rfl rfl hg50 rfl) ?_
      exact TL.nil fun a h => ⟨h.weaken ⟨rfl, trivial⟩, Ext.refl _⟩
    ·
      refine TL.gnu (j := 31) (t := 34) rfl rfl rfl hg50 rfl ?_
      refine TL.gnu (j := 31) (t := 34) rfl rfl rfl hg50 rfl ?_
      refine TL.gnu (j := 31) (t := 34) rfl rfl rfl hg50 rfl ?_
      refine TL.yld rfl rfl (yld_and_f (b2 := (!a0_c.Invert)) rfl rfl hg50 rfl) ?_
      exact TL.nil fun a h => ⟨h.weaken ⟨rfl, trivial⟩, Ext.refl _⟩
  intro w51 hx52
  have he53 : Ext w w51 := Ext.trans he48 hx52
  have hb4 := Box.ext hb4 hx52
  have hz54 := (hx52).size
  refine TL.yld rfl rfl (yld_assign rfl rfl) ?_
  refine TL.done ?_
  refine NX.seq ?_
  refine WC.ret' ?_
  obtain rfl := Option.some.inj hF
  exact NX.end (rs := [.tmp 2]) (vs := [.bool ((((((c27 && ((a0_c.RiseAt != a0_c.FallAt)))) && ((a0_c.Divide == 1)))) && (!a0_c.Invert)))]) rfl ⟨rfl, trivial⟩ ⟨_, rfl, rfl, he53⟩

-- loop.example/g00861/impl.isClock
def F_impl_isClock (n : Nat) (a0_list : List S_Clock) (a1_k : Int) : Option Bool := (Option.bind (getI a0_list a1_k) fun x3 => (Option.bind (bif ((((((decide (x3.Place < 0)) || (decide (x3.EarlyLatency < 0)))) || (decide (x3.EarlyLatency > x3.LateLatency)))) || (decide (x3.LateLatency > 100000))) then (some true) else (Option.bind (F_impl_within n x3.Uncertainty 0 100000) fun r38 => (some (!r38)))) fun c38 => (bif c38 then (some false) else (bif (x3.Source == (-1)) then (Option.bind (F_impl_Clock_isPrimary n x3) fun r54 => (some r54)) else (Option.bind (F_impl_within n x3.Source 0 (IntKind.wrap IntKind.i64 (a1_k - 1))) fun r61 => (Option.bind (bif r61 then (Option.bind (F_impl_within n x3.Divide 1 8) fun r67 => (some r67)) else (some false)) fun c67 => (Option.bind (bif (((((c67 && ((x3.Period == 0)))) && ((x3.RiseAt == 0)))) && ((x3.FallAt == 0))) then (Option.bind (F_impl_waveOf n a0_list a1_k) fun r95 => (some (decide (r95.period_ ≤ 100000)))) else (some false)) fun c95 => (some c95))))))))
set_option maxHeartbeats 40000000 in
theorem W_impl_isClock {n : Nat} {a0_list : List S_Clock} {a1_k : Int} {r : Bool} {w : World} {v1 : Value} (hF : F_impl_isClock n a0_list a1_k = some r) (ha2 : slRep C_Clock w (Iv 0 w.heap.size) a0_list v1) :
    Calls Tryd.prog 134 [v1, .int .i64 a1_k].toArray w (Ret fun u w2 => u = .bool r ∧ Ext w w2) := by
  refine calls_of Tryd.func134 rfl Tryd.ntmps134 ?_
  have he0 : Ext w w := Ext.refl w
  unfold F_impl_isClock at hF
  refine WC.seq ?_
  refine WC.region ?_
  refine TL.yld rfl rfl (yld_assign rfl rfl) ?_
  refine TL.done ?_
  refine NX.seq ?_
  refine WC.seq ?_
  refine WC.region ?_
  refine TL.yld rfl rfl (yld_move rfl rfl) ?_
  refine TL.yld rfl rfl (yld_move rfl rfl) ?_
  obtain ⟨x3, hy4, hF⟩ := bsome hF
  refine TL.ye rfl rfl (ye_index (c := C_Clock) rfl Tryd.underlying26 cn_75 rfl rfl (slRep.old ha2 he0 (Nat.le_refl _)) hy4) ?_
  rintro _ ⟨b5, o6, us7, rfl, hib10, hr8, hcl9⟩
  have hib10 : 0 ≤ b5 ∧ b5 < w.heap.size := ⟨hib10.1, by have := hib10.2; omega⟩
  obtain rfl := C_Clock_open hr8
  refine TL.yld rfl rfl (yld_loadN (us := [.string x3.Name, .int .i64 x3.Place, .int .i64 x3.Period, .int .i64 x3.RiseAt, .int .i64 x3.FallAt, .int .i64 x3.Source, .int .i64 x3.Divide, .bool x3.Invert, .int .i64 x3.EarlyLatency, .int .i64 x3.LateLatency, .int .i64 x3.Uncertainty]) rfl ag_75 rfl hcl9 cn_75) ?_
  refine TL.eff rfl rfl (eff_alloc rfl zn_75) ?_
  rintro _ w12 ⟨b11, rfl, hn13⟩
  obtain ⟨hn13e, hn13s, hn13x, hb14⟩ := hn13
  have hb14 : Box w12 b11 [.string ByteArray.empty, .int .i64 0, .int .i64 0, .int .i64 0, .int .i64 0, .int .i64 0, .int .i64 0, .bool false, .int .i64 0, .int .i64 0, .int .i64 0] 75 := hb14
  have he16 : Ext w w12 := Ext.trans he0 hn13x
  have hz17 := (hn13x).size
  have hlo15 : w.heap.size ≤ b11 := by rw [hn13e]; exact (he0).size
  refine TL.eff rfl rfl (eff_store rfl rfl rfl hb14 cn_75 rfl rfl) ?_
  rintro _ w18 ⟨hu19, hb20⟩
  have he21 : Ext w w18 := Below.trans he16 (Upd.below hu19 (by omega))
  have hz22 := (hu19).size
  have hb14 : Box w18 b11 [.string x3.Name, .int .i64 x3.Place, .int .i64 x3.Period, .int .i64 x3.RiseAt, .int .i64 x3.FallAt, .int .i64 x3.Source, .int .i64 x3.Divide, .bool x3.Invert, .int .i64 x3.EarlyLatency, .int .i64 x3.LateLatency, .int .i64 x3.Uncertainty] 75 := hb20
  refine TL.done ?_
  refine NX.seq ?_
  refine WC.seq ?_
  refine WC.seq ?_
  refine WC.region ?_
  refine TL.yld rfl rfl (yld_fieldAddr rfl fo_75_1 rfl) ?_
  refine TL.yld rfl rfl (yld_load1 1 rfl ag_2 rfl (Box.cells hb14) rfl rfl) ?_
  refine TL.yld rfl rfl (yld_lss rfl rfl rfl) ?_
  refine TL.yld rfl rfl (yld_move rfl rfl) ?_
  refine TL.cut 4 [(0, v1), (1, .int .i64 a1_k), (5, .pointer (some ⟨b11, 0, none⟩)), (17, .bool (((decide (x3.Place < 0)) || (decide (x3.EarlyLatency < 0)))))] (fun w' => Ext w18 w') ?_ ?_
  · rcases Bool.eq_false_or_eq_true (decide (x3.Place < 0)) with hg23 | hg23
    ·
      refine TL.gnu (j := 3) (t := 13) rfl rfl rfl hg23 rfl ?_
      refine TL.gnu (j := 3) (t := 13) rfl rfl rfl hg23 rfl ?_
      refine TL.gnu (j := 3) (t := 13) rfl rfl rfl hg23 rfl ?_
      refine TL.yld rfl rfl (yld_or_t (b2 := decide (x3.EarlyLatency < 0)) rfl rfl hg23 rfl) ?_
      exact TL.nil fun a h => ⟨h.weaken ⟨rfl, rfl, rfl, rfl, trivial⟩, Ext.refl _⟩
    ·
      refine TL.gy (j := 3) (t := 13) rfl rfl rfl hg23 rfl (yld_fieldAddr rfl fo_75_8 rfl) ?_
      refine TL.gy (j := 3) (t := 13) rfl rfl rfl hg23 rfl (yld_load1 8 rfl ag_2 rfl (Box.cells hb14) rfl rfl) ?_
      refine TL.gy (j := 3) (t := 13) rfl rfl rfl hg23 rfl (yld_lss rfl rfl rfl) ?_
      refine TL.yld rfl rfl (yld_or_f rfl rfl hg23 rfl) ?_
      exact TL.nil fun a h => ⟨h.weaken ⟨rfl, rfl, rfl, rfl, trivial⟩, Ext.refl _⟩
  intro w24 hx25
  have he26 : Ext w w24 := Ext.trans he21 hx25
  have hb14 := Box.ext hb14 hx25
  have hz27 := (hx25).size
  refine TL.yld rfl rfl (yld_move rfl rfl) ?_
  refine TL.cut 6 [(0, v1), (1, .int .i64 a1_k), (5, .pointer (some ⟨b11, 0, none⟩)), (24, .bool (((((decide (x3.Place < 0)) || (decide (x3.EarlyLatency < 0)))) || (decide (x3.EarlyLatency > x3.LateLatency)))))] (fun w' => Ext w24 w') ?_ ?_
  · rcases Bool.eq_false_or_eq_true (((decide (x3.Place < 0)) || (decide (x3.EarlyLatency < 0)))) with hg28 | hg28
    ·
      refine TL.gnu (j := 8) (t := 18) rfl rfl rfl hg28 rfl ?_
      refine TL.gnu (j := 8) (t := 18) rfl rfl rfl hg28 rfl ?_
      refine TL.gnu (j := 8) (t := 18) rfl rfl rfl hg28 rfl ?_
      refine TL.gnu (j := 8) (t := 18) rfl rfl rfl hg28 rfl ?_
      refine TL.gnu (j := 8) (t := 18) rfl rfl rfl hg28 rfl ?_
      refine TL.yld rfl rfl (yld_or_t (b2 := decide (x3.EarlyLatency > x3.LateLatency)) rfl rfl hg28 rfl) ?_
      exact TL.nil fun a h => ⟨h.weaken ⟨rfl, rfl, rfl, rfl, trivial⟩, Ext.refl _⟩
    ·
      refine TL.gy (j := 8) (t := 18) rfl rfl rfl hg28 rfl (yld_fieldAddr rfl fo_75_8 rfl) ?_
      refine TL.gy (j := 8) (t := 18) rfl rfl rfl hg28 rfl (yld_load1 8 rfl ag_2 rfl (Box.cells hb14) rfl rfl) ?_
      refine TL.gy (j := 8) (t := 18) rfl rfl rfl hg28 rfl (yld_fieldAddr rfl fo_75_9 rfl) ?_
      refine TL.gy (j := 8) (t := 18) rfl rfl rfl hg28 rfl (yld_load1 9 rfl ag_2 rfl (Box.cells hb14) rfl rfl) ?_
      refine TL.gy (j := 8) (t := 18) rfl rfl rfl hg28 rfl (yld_gtr rfl rfl rfl) ?_
      refine TL.yld rfl rfl (yld_or_f rfl rfl hg28 rfl) ?_
      exact TL.nil fun a h => ⟨h.weaken ⟨rfl, rfl, rfl, rfl, trivial⟩, Ext.refl _⟩
  intro w29 hx30
  have he31 : Ext w w29 := Ext.trans he26 hx30
  have hb14 := Box.ext hb14 hx30
  have hz32 := (hx30).size
  refine TL.yld rfl rfl (yld_move rfl rfl) ?_
  refine TL.cut 4 [(0, v1), (1, .int .i64 a1_k), (5, .pointer (some ⟨b11, 0, none⟩)), (29, .bool (((((((decide (x3.Place < 0)) || (decide (x3.EarlyLatency < 0)))) || (decide (x3.EarlyLatency > x3.LateLatency)))) || (decide (x3.LateLatency > 100000)))))] (fun w' => Ext w29 w') ?_ ?_
  · rcases Bool.eq_false_or_eq_true (((((decide (x3.Place < 0)) || (decide (x3.EarlyLatency < 0)))) || (decide (x3.EarlyLatency > x3.LateLatency)))) with hg33 | hg33
    ·
      refine TL.gnu (j := 15) (t := 25) rfl rfl rfl hg33 rfl ?_
      refine TL.gnu (j := 15) (t := 25) rfl rfl rfl hg33 rfl ?_
      refine TL.gnu (j := 15) (t := 25) rfl rfl rfl hg33 rfl ?_
      refine TL.yld rfl rfl (yld_or_t (b2 := decide (x3.LateLatency > 100000)) rfl rfl hg33 rfl) ?_
      exact TL.nil fun a h => ⟨h.weaken ⟨rfl, rfl, rfl, rfl, trivial⟩, Ext.refl _⟩
    ·
      refine TL.gy (j := 15) (t := 25) rfl rfl rfl hg33 rfl (yld_fieldAddr rfl fo_75_9 rfl) ?_
      refine TL.gy (j := 15) (t := 25) rfl rfl rfl hg33 rfl (yld_load1 9 rfl ag_2 rfl (Box.cells hb14) rfl rfl) ?_
      refine TL.gy (j := 15) (t := 25) rfl rfl rfl hg33 rfl (yld_gtr rfl rfl rfl) ?_
      refine TL.yld rfl rfl (yld_or_f rfl rfl hg33 rfl) ?_
      exact TL.nil fun a h => ⟨h.weaken ⟨rfl, rfl, rfl, rfl, trivial⟩, Ext.refl _⟩
  intro w34 hx35
  have he36 : Ext w w34 := Ext.trans he31 hx35
  have hb14 := Box.ext hb14 hx35
  have hz37 := (hx35).size
  refine TL.yld rfl rfl (yld_move rfl rfl) ?_
  obtain ⟨c38, hb39, hF⟩ := bsome hF
  refine TL.cut 5 [(0, v1), (1, .int .i64 a1_k), (5, .pointer (some ⟨b11, 0, none⟩)), (35, .bool c38)] (fun w' => Ext w34 w') ?_ ?_
  · rcases Bool.eq_false_or_eq_true (((((((decide (x3.Place < 0)) || (decide (x3.EarlyLatency < 0)))) || (decide (x3.EarlyLatency > x3.LateLatency)))) || (decide (x3.LateLatency > 100000)))) with hg40 | hg40
    ·
      rw [hg40] at hb39; simp only [cond_true, cond_false] at hb39
      refine TL.gnu (j := 20) (t := 30) rfl rfl rfl hg40 rfl ?_
      refine TL.gnu (j := 20) (t := 30) rfl rfl rfl hg40 rfl ?_
      refine TL.gnu (j := 20) (t := 30) rfl rfl rfl hg40 rfl ?_
      refine TL.gnu (j := 20) (t := 30) rfl rfl rfl hg40 rfl ?_
      obtain rfl := Option.some.inj hb39
      refine TL.yld rfl rfl (yld_pick_t rfl rfl hg40 rfl) ?_
      exact TL.nil fun a h => ⟨h.weaken ⟨rfl, rfl, rfl, rfl, trivial⟩, Ext.refl _⟩
    ·
      rw [hg40] at hb39; simp only [cond_true, cond_false] at hb39
      replace hF := hb39
      refine TL.gy (j := 20) (t := 30) rfl rfl rfl hg40 rfl (yld_fieldAddr rfl fo_75_10 rfl) ?_
      refine TL.gy (j := 20) (t := 30) rfl rfl rfl hg40 rfl (yld_load1 10 rfl ag_2 rfl (Box.cells hb14) rfl rfl) ?_
      obtain ⟨r41, hr42, hF⟩ := bsome hF
      refine TL.ge (j := 20) (t := 30) rfl rfl rfl hg40 rfl (eff_call rfl gf_54 rfl (W_impl_within hr42)) ?_
      rintro _ w43 ⟨rfl, hx44⟩
      have he45 : Ext w w43 := Ext.trans he36 hx44
      have hb14 := Box.ext hb14 hx44
      have hz46 := (hx44).size
      refine TL.gy (j := 20) (t := 30) rfl rfl rfl hg40 rfl (yld_not rfl rfl) ?_
      obtain rfl := Option.some.inj hF
      refine TL.yld rfl rfl (yld_pick_f rfl rfl hg40 rfl) ?_
      exact TL.nil fun a h => ⟨h.weaken ⟨rfl, rfl, rfl, rfl, trivial⟩, hx44⟩
  intro w47 hx48
  have he49 : Ext w w47 := Ext.trans he36 hx48
  have hb14 := Box.ext hb14 hx48
  have hz50 := (hx48).size
  refine TL.done ?_
  refine NX.seq ?_
  refine WC.cond rfl ?_ ?_
  · intro hc51
    replace hF := bif_t hc51 hF
    refine WC.seq ?_
    refine WC.region ?_
    refine TL.yld rfl rfl (yld_assign rfl rfl) ?_
    refine TL.done ?_
    refine NX.seq ?_
    refine WC.ret' ?_
    refine NX.then_r ?_
    obtain rfl := Option.some.inj hF
    exact NX.end (rs := [.tmp 4]) (vs := [.bool false]) rfl ⟨rfl, trivial⟩ ⟨_, rfl, rfl, he49⟩
  · intro hc52
    replace hF := bif_f hc52 hF
    refine WC.skip' ?_
    refine NX.seq ?_
    refine WC.seq ?_
    refine WC.seq ?_
    refine WC.region ?_
    refine TL.yld rfl rfl (yld_fieldAddr rfl fo_75_5 rfl) ?_
    refine TL.yld rfl rfl (yld_load1 5 rfl ag_2 rfl (Box.cells hb14) rfl rfl) ?_
    refine TL.yld rfl rfl (yld_eql rfl rfl rfl) ?_
    refine TL.done ?_
    refine NX.seq ?_
    refine WC.cond rfl ?_ ?_
    · intro hc53
      replace hF := bif_t hc53 hF
      refine WC.seq ?_
      refine WC.region ?_
      refine TL.yld rfl rfl (yld_loadN (us := [.string x3.Name, .int .i64 x3.Place, .int .i64 x3.Period, .int .i64 x3.RiseAt, .int .i64 x3.FallAt, .int .i64 x3.Source, .int .i64 x3.Divide, .bool x3.Invert, .int .i64 x3.EarlyLatency, .int .i64 x3.LateLatency, .int .i64 x3.Uncertainty]) rfl ag_75 rfl (Box.cells hb14) cn_75) ?_
      obtain ⟨r54, hr55, hF⟩ := bsome hF
      refine TL.eff rfl rfl (eff_call rfl gf_149 rfl (W_impl_Clock_isPrimary hr55)) ?_
      rintro _ w56 ⟨rfl, hx57⟩
      have he58 : Ext w w56 := Ext.trans he49 hx57
      have hb14 := Box.ext hb14 hx57
      have hz59 := (hx57).size
      refine TL.yld rfl rfl (yld_assign rfl rfl) ?_
      refine TL.done ?_
      refine NX.seq ?_
      refine WC.ret' ?_
      refine NX.then_r ?_
      obtain rfl := Option.some.inj hF
      exact NX.end (rs := [.tmp 4]) (vs := [.bool r54]) rfl ⟨rfl, trivial⟩ ⟨_, rfl, rfl, he58⟩
    · intro hc60
      replace hF := bif_f hc60 hF
      refine WC.skip' ?_
      refine NX.seq ?_
      refine WC.seq ?_
      refine WC.region ?_
      refine TL.yld rfl rfl (yld_fieldAddr rfl fo_75_5 rfl) ?_
      refine TL.yld rfl rfl (yld_load1 5 rfl ag_2 rfl (Box.cells hb14) rfl rfl) ?_
      refine TL.yld rfl rfl (yld_move rfl rfl) ?_
      refine TL.yld rfl rfl (yld_sub rfl rfl rfl) ?_
      obtain ⟨r61, hr62, hF⟩ := bsome hF
      refine TL.eff rfl rfl (eff_call rfl gf_54 rfl (W_impl_within hr62)) ?_
      rintro _ w63 ⟨rfl, hx64⟩
      have he65 : Ext w w63 := Ext.trans he49 hx64
      have hb14 := Box.ext hb14 hx64
      have hz66 := (hx64).size
      refine TL.yld rfl rfl (yld_move rfl rfl) ?_
      obtain ⟨c67, hb68, hF⟩ := bsome hF
      refine TL.cut 4 [(0, v1), (1, .int .i64 a1_k), (5, .pointer (some ⟨b11, 0, none⟩)), (50, .bool c67)] (fun w' => Ext w63 w') ?_ ?_
      · rcases Bool.eq_false_or_eq_true r61 with hg69 | hg69
        ·
          rw [hg69] at hb68; simp only [cond_true, cond_false] at hb68
          replace hF := hb68
          refine TL.gy (j := 5) (t := 46) rfl rfl rfl hg69 rfl (yld_fieldAddr rfl fo_75_6 rfl) ?_
          refine TL.gy (j := 5) (t := 46) rfl rfl rfl hg69 rfl (yld_load1 6 rfl ag_2 rfl (Box.cells hb14) rfl rfl) ?_
          obtain ⟨r70, hr71, hF⟩ := bsome hF
          refine TL.ge (j := 5) (t := 46) rfl rfl rfl hg69 rfl (eff_call rfl gf_54 rfl (W_impl_within hr71)) ?_
          rintro _ w72 ⟨rfl, hx73⟩
          have he74 : Ext w w72 := Ext.trans he65 hx73
          have hb14 := Box.ext hb14 hx73
          have hz75 := (hx73).size
          obtain rfl := Option.some.inj hF
          refine TL.yld rfl rfl (yld_pick_t rfl rfl hg69 rfl) ?_
          exact TL.nil fun a h => ⟨h.weaken ⟨rfl, rfl, rfl, rfl, trivial⟩, hx73⟩
        ·
          rw [hg69] at hb68; simp only [cond_true, cond_false] at hb68
          refine TL.gnu (j := 5) (t := 46) rfl rfl rfl hg69 rfl ?_
          refine TL.gnu (j := 5) (t := 46) rfl rfl rfl hg69 rfl ?_
          refine TL.gnu (j := 5) (t := 46) rfl rfl rfl hg69 rfl ?_
          obtain rfl := Option.some.inj hb68
          refine TL.yld rfl rfl (yld_pick_f rfl rfl hg69 rfl) ?_
          exact TL.nil fun a h => ⟨h.weaken ⟨rfl, rfl, rfl, rfl, trivial⟩, Ext.refl _⟩
      intro w76 hx77
      have he78 : Ext w w76 := Ext.trans he65 hx77
      have hb14 := Box.ext hb14 hx77
      have hz79 := (hx77).size
      refine TL.yld rfl rfl (yld_move rfl rfl) ?_
      refine TL.cut 4 [(0, v1), (1, .int .i64 a1_k), (5, .pointer (some ⟨b11, 0, none⟩)), (55, .bool ((c67 && ((x3.Period == 0)))))] (fun w' => Ext w76 w') ?_ ?_
      · rcases Bool.eq_false_or_eq_true c67 with hg80 | hg80
        ·
          refine TL.gy (j := 10) (t := 51) rfl rfl rfl hg80 rfl (yld_fieldAddr rfl fo_75_2 rfl) ?_
          refine TL.gy (j := 10) (t := 51) rfl rfl rfl hg80 rfl (yld_load1 2 rfl ag_2 rfl (Box.cells hb14) rfl rfl) ?_
          refine TL.gy (j := 10) (t := 51) rfl rfl rfl hg80 rfl (yld_eql rfl rfl rfl) ?_
          refine TL.yld rfl rfl (yld_and_t rfl rfl hg80 rfl) ?_
          exact TL.nil fun a h => ⟨h.weaken ⟨rfl, rfl, rfl, rfl, trivial⟩, Ext.refl _⟩
        ·
          refine TL.gnu (j := 10) (t := 51) rfl rfl rfl hg80 rfl ?_
          refine TL.gnu (j := 10) (t := 51) rfl rfl rfl hg80 rfl ?_
          refine TL.gnu (j := 10) (t := 51) rfl rfl rfl hg80 rfl ?_
          refine TL.yld rfl rfl (yld_and_f (b2 := (x3.Period == 0)) rfl rfl hg80 rfl) ?_
          exact TL.nil fun a h => ⟨h.weaken ⟨rfl, rfl, rfl, rfl, trivial⟩, Ext.refl _⟩
      intro w81 hx82
      have he83 : Ext w w81 := Ext.trans he78 hx82
      have hb14 := Box.ext hb14 hx82
      have hz84 := (hx82).size
      refine TL.yld rfl rfl (yld_move rfl rfl) ?_
      refine TL.cut 4 [(0, v1), (1, .int .i64 a1_k), (5, .pointer (some ⟨b11, 0, none⟩)), (60, .bool ((((c67 && ((x3.Period == 0)))) && ((x3.RiseAt == 0)))))] (fun w' => Ext w81 w') ?_ ?_
      · rcases Bool.eq_false_or_eq_true ((c67 && ((x3.Period == 0)))) with hg85 | hg85
        ·
          refine TL.gy (j := 15) (t := 56) rfl rfl rfl hg85 rfl (yld_fieldAddr rfl fo_75_3 rfl) ?_
          refine TL.gy (j := 15) (t := 56) rfl rfl rfl hg85 rfl (yld_load1 3 rfl ag_2 rfl (Box.cells hb14) rfl rfl) ?_
          refine TL.gy (j := 15) (t := 56) rfl rfl rfl hg85 rfl (yld_eql rfl rfl rfl) ?_
          refine TL.yld rfl rfl (yld_and_t rfl rfl hg85 rfl) ?_
          exact TL.nil fun a h => ⟨h.weaken ⟨rfl, rfl, rfl, rfl, trivial⟩, Ext.refl _⟩
        ·
          refine TL.gnu (j := 15) (t := 56) rfl rfl rfl hg85 rfl ?_
          refine TL.gnu (j := 15) (t := 56) rfl rfl rfl hg85 rfl ?_
          refine TL.gnu (j := 15) (t := 56) rfl rfl rfl hg85 rfl ?_
          refine TL.yld rfl rfl (yld_and_f (b2 := (x3.RiseAt == 0)) rfl rfl hg85 rfl) ?_
          exact TL.nil fun a h => ⟨h.weaken ⟨rfl, rfl, rfl, rfl, trivial⟩, Ext.refl _⟩
      intro w86 hx87
      have he88 : Ext w w86 := Ext.trans he83 hx87
      have hb14 := Box.ext hb14 hx87
      have hz89 := (hx87).size
      refine TL.yld rfl rfl (yld_move rfl rfl) ?_
      refine TL.cut 4 [(0, v1), (1, .int .i64 a1_k), (65, .bool ((((((c67 && ((x3.Period == 0)))) && ((x3.RiseAt == 0)))) && ((x3.FallAt == 0)))))] (fun w' => Ext w86 w') ?_ ?_
      · rcases Bool.eq_false_or_eq_true ((((c67 && ((x3.Period == 0)))) && ((x3.RiseAt == 0)))) with hg90 | hg90
        ·
          refine TL.gy (j := 20) (t := 61) rfl rfl rfl hg90 rfl (yld_fieldAddr rfl fo_75_4 rfl) ?_
          refine TL.gy (j := 20) (t := 61) rfl rfl rfl hg90 rfl (yld_load1 4 rfl ag_2 rfl (Box.cells hb14) rfl rfl) ?_
          refine TL.gy (j := 20) (t := 61) rfl rfl rfl hg90 rfl (yld_eql rfl rfl rfl) ?_
          refine TL.yld rfl rfl (yld_and_t rfl rfl hg90 rfl) ?_
          exact TL.nil fun a h => ⟨h.weaken ⟨rfl, rfl, rfl, trivial⟩, Ext.refl _⟩
        ·
          refine TL.gnu (j := 20) (t := 61) rfl rfl rfl hg90 rfl ?_
          refine TL.gnu (j := 20) (t := 61) rfl rfl rfl hg90 rfl ?_
          refine TL.gnu (j := 20) (t := 61) rfl rfl rfl hg90 rfl ?_
          refine TL.yld rfl rfl (yld_and_f (b2 := (x3.FallAt == 0)) rfl rfl hg90 rfl) ?_
          exact TL.nil fun a h => ⟨h.weaken ⟨rfl, rfl, rfl, trivial⟩, Ext.refl _⟩
      intro w91 hx92
      have he93 : Ext w w91 := Ext.trans he88 hx92
      have hb14 := Box.ext hb14 hx92
      have hz94 := (hx92).size
      refine TL.yld rfl rfl (yld_move rfl rfl) ?_
      obtain ⟨c95, hb96, hF⟩ := bsome hF
      refine TL.cut 6 [(72, .bool c95)] (fun w' => Ext w91 w') ?_ ?_
      · rcases Bool.eq_false_or_eq_true ((((((c67 && ((x3.Period == 0)))) && ((x3.RiseAt == 0)))) && ((x3.FallAt == 0)))) with hg97 | hg97
        ·
          rw [hg97] at hb96; simp only [cond_true, cond_false] at hb96
          replace hF := hb96
          refine TL.gy (j := 25) (t := 66) rfl rfl rfl hg97 rfl (yld_move rfl rfl) ?_
          refine TL.gy (j := 25) (t := 66) rfl rfl rfl hg97 rfl (yld_move rfl rfl) ?_
          obtain ⟨r98, hr99, hF⟩ := bsome hF
          refine TL.ge (j := 25) (t := 66) rfl rfl rfl hg97 rfl (eff_call rfl gf_64 rfl (W_impl_waveOf hr99 ((slRep.old ha2 he93 (Nat.le_refl _)).wide (Nat.le_refl _) (he93).size))) ?_
          rintro _ w100 ⟨rfl, hx101⟩
          have he102 : Ext w w100 := Ext.trans he93 hx101
          have hb14 := Box.ext hb14 hx101
          have hz103 := (hx101).size
          refine TL.gy (j := 25) (t := 66) rfl rfl rfl hg97 rfl (yld_field1 rfl ft_84_0 ag_2 rfl rfl) ?_
          refine TL.gy (j := 25) (t := 66) rfl rfl rfl hg97 rfl (yld_leq rfl rfl rfl) ?_
          obtain rfl := Option.some.inj hF
          refine TL.yld rfl rfl (yld_pick_t rfl rfl hg97 rfl) ?_
          exact TL.nil fun a h => ⟨h.weaken ⟨rfl, trivial⟩, hx101⟩
        ·
          rw [hg97] at hb96; simp only [cond_true, cond_false] at hb96
          refine TL.gnu (j := 25) (t := 66) rfl rfl rfl hg97 rfl ?_
          refine TL.gnu (j := 25) (t := 66) rfl rfl rfl hg97 rfl ?_
          refine TL.gnu (j := 25) (t := 66) rfl rfl rfl hg97 rfl ?_
          refine TL.gnu (j := 25) (t := 66) rfl rfl rfl hg97 rfl ?_
          refine TL.gnu (j := 25) (t := 66) rfl rfl rfl hg97 rfl ?_
          obtain rfl := Option.some.inj hb96
          refine TL.yld rfl rfl (yld_pick_f rfl rfl hg97 rfl) ?_
          exact TL.nil fun a h => ⟨h.weaken ⟨rfl, trivial⟩, Ext.refl _⟩
      intro w104 hx105
      have he106 : Ext w w104 := Ext.trans he93 hx105
      have hb14 := Box.ext hb14 hx105
      have hz107 := (hx105).size
      refine TL.yld rfl rfl (yld_assign rfl rfl) ?_
      refine TL.done ?_
      refine NX.seq ?_
      refine WC.ret' ?_
      obtain rfl := Option.some.inj hF
      exact NX.end (rs := [.tmp 4]) (vs := [.bool c95]) rfl ⟨rfl, trivial⟩ ⟨_, rfl, rfl, he106⟩

-- strings.Trim, by the shelf's contract
def F_strings_Trim (n : Nat) (a0_s : ByteArray) (a1_cutset : ByteArray) : Option ByteArray := if a0_s.size ≤ 9223372036854775807 ∧ a1_cutset.size < 4294967281 ∧ (a1_cutset.data.toList.all fun b => decide (b.toNat < 128)) = true then some ⟨(Lib.trimS a0_s.data.toList a1_cutset.data.toList).toArray⟩ else none
theorem W_strings_Trim {n : Nat} {a0_s : ByteArray} {a1_cutset : ByteArray} {r : ByteArray} {w : World} (hF : F_strings_Trim n a0_s a1_cutset = some r) :
    Calls Tryd.prog 138 [.string a0_s, .string a1_cutset].toArray w (Ret fun u w2 => u = .string r ∧ Ext w w2) := by
  unfold F_strings_Trim at hF
  split at hF
  · rename_i h
    obtain rfl := Option.some.inj hF
    refine (Tryd.strings_Trim_ascii a0_s a1_cutset w h.1 h.2.1 (fun j b hb => of_decide_eq_true (List.all_eq_true.1 h.2.2 b (List.mem_of_getElem? hb)))).mono ?_
    rintro e w' ⟨rfl, hB⟩
    exact ⟨_, rfl, rfl, hB⟩
  · cases hF

-- strings.IndexByte, by the shelf's contract
def F_strings_IndexByte (n : Nat) (a0_s : ByteArray) (a1_c : Int) : Option Int := some (Lib.indexByte a0_s.data.toList a1_c.toNat.toUInt8)
theorem W_strings_IndexByte {n : Nat} {a0_s : ByteArray} {a1_c : Int} {r : Int} {w : World} (hF : F_strings_IndexByte n a0_s a1_c = some r) :
    Calls Tryd.prog 139 [.string a0_s, .int .u8 a1_c].toArray w (Ret fun u w2 => u = .int .i64 r ∧ Ext w w2) := by
  obtain rfl := Option.some.inj hF
  refine (Tryd.strings_IndexByte a0_s a1_c w).mono ?_
  rintro e w' ⟨rfl, rfl⟩
  exact ⟨_, rfl, rfl, Ext.refl _⟩

-- loop.example/g00861/impl.isName
def F_impl_isName (n : Nat) (a0_s : ByteArray) : Option Bool := (Option.bind (F_impl_within n ((a0_s.size : Int)) 1 8) fun r1 => (Option.bind (bif r1 then (Option.bind (F_strings_Trim n a0_s ((ByteArray.mk #[97, 98, 99, 100, 101, 102, 103, 104, 105, 106, 107, 108, 109, 110, 111, 112, 113, 114, 115, 116, 117, 118, 119, 120, 121, 122, 48, 49, 50, 51, 52, 53, 54, 55, 56, 57]))) fun r7 => (some ((r7.toList == ((ByteArray.mk #[])).toList)))) else (some false)) fun c7 => (Option.bind (bif c7 then (Option.bind (getB a0_s 0) fun x20 => (Option.bind (F_strings_IndexByte n ((ByteArray.mk #[97, 98, 99, 100, 101, 102, 103, 104, 105, 106, 107, 108, 109, 110, 111, 112, 113, 114, 115, 116, 117, 118, 119, 120, 121, 122])) x20) fun r22 => (some (decide (r22 ≥ 0))))) else (some false)) fun c20 => (some c20))))
set_option maxHeartbeats 40000000 in
theorem W_impl_isName {n : Nat} {a0_s : ByteArray} {r : Bool} {w : World} (hF : F_impl_isName n a0_s = some r) :
    Calls Tryd.prog 109 [.string a0_s].toArray w (Ret fun u w2 => u = .bool r ∧ Ext w w2) := by
  refine calls_of Tryd.func109 rfl Tryd.ntmps109 ?_
  have he0 : Ext w w := Ext.refl w
  unfold F_impl_isName at hF
  refine WC.seq ?_
  refine WC.region ?_
  refine TL.yld rfl rfl (yld_assign rfl rfl) ?_
  refine TL.done ?_
  refine NX.seq ?_
  refine WC.seq ?_
  refine WC.region ?_
  refine TL.yld rfl rfl (yld_move rfl rfl) ?_
  refine TL.yld rfl rfl (yld_lens rfl Tryd.underlying9 rfl) ?_
  obtain ⟨r1, hr2, hF⟩ := bsome hF
  refine TL.eff rfl rfl (eff_call rfl gf_54 rfl (W_impl_within hr2)) ?_
  rintro _ w3 ⟨rfl, hx4⟩
  have he5 : Ext w w3 := Ext.trans he0 hx4
  have hz6 := (hx4).size
  refine TL.yld rfl rfl (yld_move rfl rfl) ?_
  obtain ⟨c7, hb8, hF⟩ := bsome hF
  refine TL.cut 4 [(0, .string a0_s), (10, .bool c7)] (fun w' => Ext w3 w') ?_ ?_
  · rcases Bool.eq_false_or_eq_true r1 with hg9 | hg9
    ·
      rw [hg9] at hb8; simp only [cond_true, cond_false] at hb8
      replace hF := hb8
      refine TL.gy (j := 3) (t := 6) rfl rfl rfl hg9 rfl (yld_move rfl rfl) ?_
      obtain ⟨r10, hr11, hF⟩ := bsome hF
      refine TL.ge (j := 3) (t := 6) rfl rfl rfl hg9 rfl (eff_call rfl gf_138 rfl (W_strings_Trim hr11)) ?_
      rintro _ w12 ⟨rfl, hx13⟩
      have he14 : Ext w w12 := Ext.trans he5 hx13
      have hz15 := (hx13).size
      refine TL.gy (j := 3) (t := 6) rfl rfl rfl hg9 rfl (yld_eqs rfl rfl rfl) ?_
      obtain rfl := Option.some.inj hF
      refine TL.yld rfl rfl (yld_pick_t rfl rfl hg9 rfl) ?_
      exact TL.nil fun a h => ⟨h.weaken ⟨rfl, rfl, trivial⟩, hx13⟩
    ·
      rw [hg9] at hb8; simp only [cond_true, cond_false] at hb8
      refine TL.gnu (j := 3) (t := 6) rfl rfl rfl hg9 rfl ?_
      refine TL.gnu (j := 3) (t := 6) rfl rfl rfl hg9 rfl ?_
      refine TL.gnu (j := 3) (t := 6) rfl rfl rfl hg9 rfl ?_
      obtain rfl := Option.some.inj hb8
      refine TL.yld rfl rfl (yld_pick_f rfl rfl hg9 rfl) ?_
      exact TL.nil fun a h => ⟨h.weaken ⟨rfl, rfl, trivial⟩, Ext.refl _⟩
  intro w16 hx17
  have he18 : Ext w w16 := Ext.trans he5 hx17
  have hz19 := (hx17).size
  refine TL.yld rfl rfl (yld_move rfl rfl) ?_
  obtain ⟨c20, hb21, hF⟩ := bsome hF
  refine TL.cut 5 [(16, .bool c20)] (fun w' => Ext w16 w') ?_ ?_
  · rcases Bool.eq_false_or_eq_true c7 with hg22 | hg22
    ·
      rw [hg22] at hb21; simp only [cond_true, cond_false] at hb21
      replace hF := hb21
      refine TL.gy (j := 8) (t := 11) rfl rfl rfl hg22 rfl (yld_move rfl rfl) ?_
      obtain ⟨x23, hy24, hF⟩ := bsome hF
      refine TL.gy (j := 8) (t := 11) rfl rfl rfl hg22 rfl (yld_indexStr rfl Tryd.underlying9 rfl rfl hy24) ?_
      obtain ⟨r25, hr26, hF⟩ := bsome hF
      refine TL.ge (j := 8) (t := 11) rfl rfl rfl hg22 rfl (eff_call rfl gf_139 rfl (W_strings_IndexByte hr26)) ?_
      rintro _ w27 ⟨rfl, hx28⟩
      have he29 : Ext w w27 := Ext.trans he18 hx28
      have hz30 := (hx28).size
      refine TL.gy (j := 8) (t := 11) rfl rfl rfl hg22 rfl (yld_geq rfl rfl rfl) ?_
      obtain rfl := Option.some.inj hF
      refine TL.yld rfl rfl (yld_pick_t rfl rfl hg22 rfl) ?_
      exact TL.nil fun a h => ⟨h.weaken ⟨rfl, trivial⟩, hx28⟩
    ·
      rw [hg22] at hb21; simp only [cond_true, cond_false] at hb21
      refine TL.gnu (j := 8) (t := 11) rfl rfl rfl hg22 rfl ?_
      refine TL.gnu (j := 8) (t := 11) rfl rfl rfl hg22 rfl ?_
      refine TL.gnu (j := 8) (t := 11) rfl rfl rfl hg22 rfl ?_
      refine TL.gnu (j := 8) (t := 11) rfl rfl rfl hg22 rfl ?_
      obtain rfl := Option.some.inj hb21
      refine TL.yld rfl rfl (yld_pick_f rfl rfl hg22 rfl) ?_
      exact TL.nil fun a h => ⟨h.weaken ⟨rfl, trivial⟩, Ext.refl _⟩
  intro w31 hx32
  have he33 : Ext w w31 := Ext.trans he18 hx32
  have hz34 := (hx32).size
  refine TL.yld rfl rfl (yld_assign rfl rfl) ?_
  refine TL.done ?_
  refine NX.seq ?_
  refine WC.ret' ?_
  obtain rfl := Option.some.inj hF
  exact NX.end (rs := [.tmp 2]) (vs := [.bool c20]) rfl ⟨rfl, trivial⟩ ⟨_, rfl, rfl, he33⟩

-- slices.Index[[]string,string]
def F_slices_Index_string_string_L1 (a0_s : List ByteArray) (a1_v : ByteArray) (k0 : Int → Option Int) : Nat → Int → Option Int
  | 0 => fun _ => none
  | m + 1 => fun i5 => (bif decide (i5 < (a0_s.length : Int)) then (Option.bind (getI a0_s i5) fun x7 => (bif (a1_v.toList == x7.toList) then (some i5) else (F_slices_Index_string_string_L1 a0_s a1_v k0 m (IntKind.wrap IntKind.i64 (i5 + 1))))) else (k0 i5))
theorem F_slices_Index_string_string_L1_z (a0_s : List ByteArray) (a1_v : ByteArray) (k0 : Int → Option Int) (i5 : Int) : F_slices_Index_string_string_L1 a0_s a1_v k0 0 i5 = none := rfl
theorem F_slices_Index_string_string_L1_s (m : Nat) (a0_s : List ByteArray) (a1_v : ByteArray) (k0 : Int → Option Int) (i5 : Int) : F_slices_Index_string_string_L1 a0_s a1_v k0 (m + 1) i5 = (bif decide (i5 < (a0_s.length : Int)) then (Option.bind (getI a0_s i5) fun x7 => (bif (a1_v.toList == x7.toList) then (some i5) else (F_slices_Index_string_string_L1 a0_s a1_v k0 m (IntKind.wrap IntKind.i64 (i5 + 1))))) else (k0 i5)) := rfl

def F_slices_Index_string_string (n : Nat) (a0_s : List ByteArray) (a1_v : ByteArray) : Option Int := (F_slices_Index_string_string_L1 a0_s a1_v (fun i5 => (some (-1))) n 0)
set_option maxHeartbeats 40000000 in
theorem W_slices_Index_string_string {n : Nat} {a0_s : List ByteArray} {a1_v : ByteArray} {r : Int} {w : World} {v1 : Value} (hF : F_slices_Index_string_string n a0_s a1_v = some r) (ha2 : slRep cStr w (Iv 0 w.heap.size) a0_s v1) :
    Calls Tryd.prog 168 [v1, .string a1_v].toArray w (Ret fun u w2 => u = .int .i64 r ∧ Ext w w2) := by
  refine calls_of Tryd.func168 rfl Tryd.ntmps168 ?_
  have he0 : Ext w w := Ext.refl w
  unfold F_slices_Index_string_string at hF
  refine WC.seq ?_
  refine WC.region ?_
  refine TL.yld rfl rfl (yld_assign rfl rfl) ?_
  refine TL.done ?_
  refine NX.seq ?_
  refine WC.seq ?_
  refine WC.seq ?_
  refine WC.region ?_
  refine TL.yld rfl rfl (yld_move rfl rfl) ?_
  refine TL.yld rfl rfl (ye_len (c := cStr) rfl Tryd.underlying133 rfl (slRep.old ha2 he0 (Nat.le_refl _))) ?_
  refine TL.yld rfl rfl (yld_move rfl rfl) ?_
  refine TL.done ?_
  refine NX.seq ?_
  refine WC.block ?_
  refine WC.loop (fun m6 a wl => ∃ (i5 : Int), Kn 19 [(0, v1), (1, .string a1_v), (7, .int .i64 ((a0_s.length : Int))), (8, .int .i64 i5)] a ∧ Ext w wl ∧ w.heap.size ≤ wl.heap.size ∧ F_slices_Index_string_string_L1 a0_s a1_v (fun i5 => (some (-1))) m6 i5 = some r) n ?_ ?_
  · intro a hK; exact ⟨0, hK.weaken ⟨rfl, rfl, rfl, rfl, trivial⟩, he0, Nat.le_refl _, hF⟩
  · rintro m6 a w3 ⟨i5, hK, he4, hz7, hF⟩
    revert hK; revert a; refine (?_ : WC _ _ _ _ _ _)
    cases m6 with
    | zero => rw [F_slices_Index_string_string_L1_z] at hF; cases hF
    | succ m6 =>
      rw [F_slices_Index_string_string_L1_s] at hF
      refine WC.seq ?_
      refine WC.region ?_
      refine TL.yld rfl rfl (yld_lss rfl rfl rfl) ?_
      refine TL.done ?_
      refine NX.seq ?_
      refine WC.seq ?_
      refine WC.cond rfl ?_ ?_
      · intro hc8
        replace hF := bif_t hc8 hF
        refine WC.skip' ?_
        refine NX.seq ?_
        refine WC.seq ?_
        refine WC.block ?_
        refine WC.seq ?_
        refine WC.region ?_
        refine TL.yld rfl rfl (yld_move rfl rfl) ?_
        refine TL.yld rfl rfl (yld_assign rfl rfl) ?_
        refine TL.done ?_
        refine NX.seq ?_
        refine WC.seq ?_
        refine WC.region ?_
        refine TL.yld rfl rfl (yld_move rfl rfl) ?_
        refine TL.yld rfl rfl (yld_move rfl rfl) ?_
        refine TL.yld rfl rfl (yld_move rfl rfl) ?_
        obtain ⟨x9, hy10, hF⟩ := bsome hF
        refine TL.ye rfl rfl (ye_index (c := cStr) rfl Tryd.underlying133 cn_9 rfl rfl (slRep.old ha2 he4 (Nat.le_refl _)) hy10) ?_
        rintro _ ⟨b11, o12, us13, rfl, hib16, hr14, hcl15⟩
        have hib16 : 0 ≤ b11 ∧ b11 < w.heap.size := ⟨hib16.1, by have := hib16.2; omega⟩
        obtain rfl := hr14
        refine TL.yld rfl rfl (yld_load1 0 rfl ag_9 rfl hcl15 rfl rfl) ?_
        refine TL.yld rfl rfl (yld_eqs rfl rfl rfl) ?_
        refine TL.done ?_
        refine NX.seq ?_
        refine WC.cond rfl ?_ ?_
        · intro hc17
          replace hF := bif_t hc17 hF
          refine WC.seq ?_
          refine WC.region ?_
          refine TL.yld rfl rfl (yld_move rfl rfl) ?_
          refine TL.yld rfl rfl (yld_assign rfl rfl) ?_
          refine TL.done ?_
          refine NX.seq ?_
          refine WC.ret' ?_
          refine NX.blk_r ?_
          refine NX.then_r ?_
          refine NX.then_r ?_
          refine NX.blk_r ?_
          refine NX.then_r ?_
          obtain rfl := Option.some.inj hF
          exact NX.end (rs := [.tmp 4]) (vs := [.int .i64 i5]) rfl ⟨rfl, trivial⟩ ⟨_, rfl, rfl, he4⟩
        · intro hc18
          replace hF := bif_f hc18 hF
          refine WC.skip' ?_
          refine NX.blk_n ?_
          refine NX.seq ?_
          refine WC.region ?_
          refine TL.yld rfl rfl (yld_add rfl rfl rfl) ?_
          refine TL.yld rfl rfl (yld_move rfl rfl) ?_
          refine TL.done ?_
          refine NX.then_n ?_
          intro a hK; exact ⟨m6, Nat.lt_succ_self m6, (IntKind.wrap IntKind.i64 (i5 + 1)), hK.weaken ⟨rfl, rfl, rfl, rfl, trivial⟩, he4, (by omega), hF⟩
      · intro hc19
        replace hF := bif_f hc19 hF
        refine WC.exit' ?_
        refine NX.then_e ?_
        refine NX.then_e ?_
        refine NX.blk_hit ?_
        refine NX.seq ?_
        refine WC.seq ?_
        refine WC.region ?_
        refine TL.yld rfl rfl (yld_assign rfl rfl) ?_
        refine TL.done ?_
        refine NX.seq ?_
        refine WC.ret' ?_
        obtain rfl := Option.some.inj hF
        exact NX.end (rs := [.tmp 4]) (vs := [.int .i64 (-1)]) rfl ⟨rfl, trivial⟩ ⟨_, rfl, rfl, he4⟩

-- slices.Contains[[]string,string]
def F_slices_Contains_string_string (n : Nat) (a0_s : List ByteArray) (a1_v : ByteArray) : Option Bool := (Option.bind (F_slices_Index_string_string n a0_s a1_v) fun r3 => (some (decide (r3 ≥ 0))))
set_option maxHeartbeats 40000000 in
theorem W_slices_Contains_string_string {n : Nat} {a0_s : List ByteArray} {a1_v : ByteArray} {r : Bool} {w : World} {v1 : Value} (hF : F_slices_Contains_string_string n a0_s a1_v = some r) (ha2 : slRep cStr w (Iv 0 w.heap.size) a0_s v1) :
    Calls Tryd.prog 150 [v1, .string a1_v].toArray w (Ret fun u w2 => u = .bool r ∧ Ext w w2) := by
  refine calls_of Tryd.func150 rfl Tryd.ntmps150 ?_
  have he0 : Ext w w := Ext.refl w
  unfold F_slices_Contains_string_string at hF
  refine WC.seq ?_
  refine WC.region ?_
  refine TL.yld rfl rfl (yld_assign rfl rfl) ?_
  refine TL.done ?_
  refine NX.seq ?_
  refine WC.seq ?_
  refine WC.region ?_
  refine TL.yld rfl rfl (yld_move rfl rfl) ?_
  refine TL.yld rfl rfl (yld_move rfl rfl) ?_
  obtain ⟨r3, hr4, hF⟩ := bsome hF
  refine TL.eff rfl rfl (eff_call rfl gf_168 rfl (W_slices_Index_string_string hr4 ((slRep.old ha2 he0 (Nat.le_refl _)).wide (Nat.le_refl _) (he0).size))) ?_
  rintro _ w5 ⟨rfl, hx6⟩
  have he7 : Ext w w5 := Ext.trans he0 hx6
  have hz8 := (hx6).size
  refine TL.yld rfl rfl (yld_geq rfl rfl rfl) ?_
  refine TL.yld rfl rfl (yld_assign rfl rfl) ?_
  refine TL.done ?_
  refine NX.seq ?_
  refine WC.ret' ?_
  obtain rfl := Option.some.inj hF
  exact NX.end (rs := [.tmp 4]) (vs := [.bool (decide (r3 ≥ 0))]) rfl ⟨rfl, trivial⟩ ⟨_, rfl, rfl, he7⟩

-- loop.example/g00861/impl.areNames
def F_impl_areNames_L1 (n : Nat) (a0_list : List ByteArray) (k0 : Int → Option Bool) : Nat → Int → Option Bool
  | 0 => fun _ => none
  | m + 1 => fun i5 => (bif decide (i5 < (a0_list.length : Int)) then (Option.bind (getI a0_list i5) fun x7 => (Option.bind (F_impl_isName n x7) fun r15 => (Option.bind (bif (!r15) then (some true) else (Option.bind (subL a0_list 0 i5) fun z21 => (Option.bind (F_slices_Contains_string_string n z21 x7) fun r25 => (some r25)))) fun c21 => (bif c21 then (some false) else (F_impl_areNames_L1 n a0_list k0 m (IntKind.wrap IntKind.i64 (i5 + 1))))))) else (k0 i5))
theorem F_impl_areNames_L1_z (n : Nat) (a0_list : List ByteArray) (k0 : Int → Option Bool) (i5 : Int) : F_impl_areNames_L1 n a0_list k0 0 i5 = none := rfl
theorem F_impl_areNames_L1_s (m : Nat) (n : Nat) (a0_list : List ByteArray) (k0 : Int → Option Bool) (i5 : Int) : F_impl_areNames_L1 n a0_list k0 (m + 1) i5 = (bif decide (i5 < (a0_list.length : Int)) then (Option.bind (getI a0_list i5) fun x7 => (Option.bind (F_impl_isName n x7) fun r15 => (Option.bind (bif (!r15) then (some true) else (Option.bind (subL a0_list 0 i5) fun z21 => (Option.bind (F_slices_Contains_string_string n z21 x7) fun r25 => (some r25)))) fun c21 => (bif c21 then (some false) else (F_impl_areNames_L1 n a0_list k0 m (IntKind.wrap IntKind.i64 (i5 + 1))))))) else (k0 i5)) := rfl

def F_impl_areNames (n : Nat) (a0_list : List ByteArray) : Option Bool := (F_impl_areNames_L1 n a0_list (fun i5 => (some true)) n 0)
set_option maxHeartbeats 40000000 in
theorem W_impl_areNames {n : Nat} {a0_list : List ByteArray} {r : Bool} {w : World} {v1 : Value} (hF : F_impl_areNames n a0_list = some r) (ha2 : slRep cStr w (Iv 0 w.heap.size) a0_list v1) :
    Calls Tryd.prog 135 [v1].toArray w (Ret fun u w2 => u = .bool r ∧ Ext w w2) := by
  refine calls_of Tryd.func135 rfl Tryd.ntmps135 ?_
  have he0 : Ext w w := Ext.refl w
  unfold F_impl_areNames at hF
  refine WC.seq ?_
  refine WC.region ?_
  refine TL.yld rfl rfl (yld_assign rfl rfl) ?_
  refine TL.done ?_
  refine NX.seq ?_
  refine WC.seq ?_
  refine WC.seq ?_
  refine WC.region ?_
  refine TL.yld rfl rfl (yld_move rfl rfl) ?_
  refine TL.yld rfl rfl (ye_len (c := cStr) rfl Tryd.underlying133 rfl (slRep.old ha2 he0 (Nat.le_refl _))) ?_
  refine TL.yld rfl rfl (yld_move rfl rfl) ?_
  refine TL.done ?_
  refine NX.seq ?_
  refine WC.block ?_
  refine WC.loop (fun m6 a wl => ∃ (i5 : Int), Kn 23 [(0, v1), (5, v1), (6, .int .i64 ((a0_list.length : Int))), (7, .int .i64 i5)] a ∧ Ext w wl ∧ w.heap.size ≤ wl.heap.size ∧ F_impl_areNames_L1 n a0_list (fun i5 => (some true)) m6 i5 = some r) n ?_ ?_
  · intro a hK; exact ⟨0, hK.weaken ⟨rfl, rfl, rfl, rfl, trivial⟩, he0, Nat.le_refl _, hF⟩
  · rintro m6 a w3 ⟨i5, hK, he4, hz7, hF⟩
    revert hK; revert a; refine (?_ : WC _ _ _ _ _ _)
    cases m6 with
    | zero => rw [F_impl_areNames_L1_z] at hF; cases hF
    | succ m6 =>
      rw [F_impl_areNames_L1_s] at hF
      refine WC.seq ?_
      refine WC.region ?_
      refine TL.yld rfl rfl (yld_lss rfl rfl rfl) ?_
      refine TL.done ?_
      refine NX.seq ?_
      refine WC.seq ?_
      refine WC.cond rfl ?_ ?_
      · intro hc8
        replace hF := bif_t hc8 hF
        refine WC.skip' ?_
        refine NX.seq ?_
        refine WC.seq ?_
        refine WC.block ?_
        refine WC.seq ?_
        refine WC.region ?_
        refine TL.yld rfl rfl (yld_move rfl rfl) ?_
        obtain ⟨x9, hy10, hF⟩ := bsome hF
        refine TL.ye rfl rfl (ye_index (c := cStr) rfl Tryd.underlying133 cn_9 rfl rfl (slRep.old ha2 he4 (Nat.le_refl _)) hy10) ?_
        rintro _ ⟨b11, o12, us13, rfl, hib16, hr14, hcl15⟩
        have hib16 : 0 ≤ b11 ∧ b11 < w.heap.size := ⟨hib16.1, by have := hib16.2; omega⟩
        obtain rfl := hr14
        refine TL.yld rfl rfl (yld_load1 0 rfl ag_9 rfl hcl15 rfl rfl) ?_
        refine TL.yld rfl rfl (yld_assign rfl rfl) ?_
        refine TL.yld rfl rfl (yld_assign rfl rfl) ?_
        refine TL.done ?_
        refine NX.seq ?_
        refine WC.seq ?_
        refine WC.region ?_
        refine TL.yld rfl rfl (yld_move rfl rfl) ?_
        obtain ⟨r17, hr18, hF⟩ := bsome hF
        refine TL.eff rfl rfl (eff_call rfl gf_109 rfl (W_impl_isName hr18)) ?_
        rintro _ w19 ⟨rfl, hx20⟩
        have he21 : Ext w w19 := Ext.trans he4 hx20
        have hz22 := (hx20).size
        refine TL.yld rfl rfl (yld_not rfl rfl) ?_
        refine TL.yld rfl rfl (yld_move rfl rfl) ?_
        obtain ⟨c23, hb24, hF⟩ := bsome hF
        refine TL.cut 6 [(0, v1), (5, v1), (6, .int .i64 ((a0_list.length : Int))), (7, .int .i64 i5), (21, .bool c23)] (fun w' => Ext w19 w') ?_ ?_
        · rcases Bool.eq_false_or_eq_true (!r17) with hg25 | hg25
          ·
            rw [hg25] at hb24; simp only [cond_true, cond_false] at hb24
            refine TL.gnu (j := 3) (t := 15) rfl rfl rfl hg25 rfl ?_
            refine TL.gnu (j := 3) (t := 15) rfl rfl rfl hg25 rfl ?_
            refine TL.gnu (j := 3) (t := 15) rfl rfl rfl hg25 rfl ?_
            refine TL.gnu (j := 3) (t := 15) rfl rfl rfl hg25 rfl ?_
            refine TL.gnu (j := 3) (t := 15) rfl rfl rfl hg25 rfl ?_
            obtain rfl := Option.some.inj hb24
            refine TL.yld rfl rfl (yld_pick_t rfl rfl hg25 rfl) ?_
            exact TL.nil fun a h => ⟨h.weaken ⟨rfl, rfl, rfl, rfl, rfl, trivial⟩, Ext.refl _⟩
          ·
            rw [hg25] at hb24; simp only [cond_true, cond_false] at hb24
            replace hF := hb24
            refine TL.gy (j := 3) (t := 15) rfl rfl rfl hg25 rfl (yld_move rfl rfl) ?_
            refine TL.gy (j := 3) (t := 15) rfl rfl rfl hg25 rfl (yld_move rfl rfl) ?_
            obtain ⟨z26, hz27, hF⟩ := bsome hF
            refine TL.yeg (j := 3) (t := 15) rfl rfl rfl hg25 rfl (ye_slice_to (c := cStr) rfl Tryd.underlying133 cn_9 rfl rfl (slRep.old ha2 he21 (Nat.le_refl _)) hz27) ?_
            rintro v28 hs29
            refine TL.gy (j := 3) (t := 15) rfl rfl rfl hg25 rfl (yld_move rfl rfl) ?_
            obtain ⟨r30, hr31, hF⟩ := bsome hF
            refine TL.ge (j := 3) (t := 15) rfl rfl rfl hg25 rfl (eff_call rfl gf_150 rfl (W_slices_Contains_string_string hr31 (hs29.wide (Nat.zero_le _) (by omega)))) ?_
            rintro _ w32 ⟨rfl, hx33⟩
            have he34 : Ext w w32 := Ext.trans he21 hx33
            have hs29 := slRep.old hs29 hx33 (by omega)
            have hz35 := (hx33).size
            obtain rfl := Option.some.inj hF
            refine TL.yld rfl rfl (yld_pick_f rfl rfl hg25 rfl) ?_
            exact TL.nil fun a h => ⟨h.weaken ⟨rfl, rfl, rfl, rfl, rfl, trivial⟩, hx33⟩
        intro w36 hx37
        have he38 : Ext w w36 := Ext.trans he21 hx37
        have hz39 := (hx37).size
        refine TL.done ?_
        refine NX.seq ?_
        refine WC.cond rfl ?_ ?_
        · intro hc40
          replace hF := bif_t hc40 hF
          refine WC.seq ?_
          refine WC.region ?_
          refine TL.yld rfl rfl (yld_assign rfl rfl) ?_
          refine TL.done ?_
          refine NX.seq ?_
          refine WC.ret' ?_
          refine NX.blk_r ?_
          refine NX.then_r ?_
          refine NX.then_r ?_
          refine NX.blk_r ?_
          refine NX.then_r ?_
          obtain rfl := Option.some.inj hF
          exact NX.end (rs := [.tmp 2]) (vs := [.bool false]) rfl ⟨rfl, trivial⟩ ⟨_, rfl, rfl, he38⟩
        · intro hc41
          replace hF := bif_f hc41 hF
          refine WC.skip' ?_
          refine NX.blk_n ?_
          refine NX.seq ?_
          refine WC.region ?_
          refine TL.yld rfl rfl (yld_add rfl rfl rfl) ?_
          refine TL.yld rfl rfl (yld_move rfl rfl) ?_
          refine TL.done ?_
          refine NX.then_n ?_
          intro a hK; exact ⟨m6, Nat.lt_succ_self m6, (IntKind.wrap IntKind.i64 (i5 + 1)), hK.weaken ⟨rfl, rfl, rfl, rfl, trivial⟩, he38, (by omega), hF⟩
      · intro hc42
        replace hF := bif_f hc42 hF
        refine WC.exit' ?_
        refine NX.then_e ?_
        refine NX.then_e ?_
        refine NX.blk_hit ?_
        refine NX.seq ?_
        refine WC.seq ?_
        refine WC.region ?_
        refine TL.yld rfl rfl (yld_assign rfl rfl) ?_
        refine TL.done ?_
        refine NX.seq ?_
        refine WC.ret' ?_
        obtain rfl := Option.some.inj hF
        exact NX.end (rs := [.tmp 2]) (vs := [.bool true]) rfl ⟨rfl, trivial⟩ ⟨_, rfl, rfl, he4⟩

end Go.Proofs.YthjagnioabgceabDoor
