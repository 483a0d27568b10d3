/- The walks: every function that FnSeparations reaches computes the plain function that is typed beside it; no condition. -/
import Derived.Test.YthjagnioabgceabDoorProg
import Derived.Test.YthjagnioabgceabDoorDat
import Derived.Test.YthjagnioabgceabDoorShelf
set_option linter.all false
set_option maxRecDepth 20000
namespace Go.Proofs.YthjagnioabgceabDoor
open Go Go.RowKit Go.Eng
theorem Tryd.hm : Tryd.prog.follows .mixedOrders = true := by kernel_rfl
theorem ag_2 : aggB Tryd.prog 2 = some false := by kernel_rfl
theorem ag_3 : aggB Tryd.prog 3 = some false := by kernel_rfl
theorem ag_34 : aggB Tryd.prog 34 = some false := by kernel_rfl
theorem ag_4 : aggB Tryd.prog 4 = some false := by kernel_rfl
theorem ag_42 : aggB Tryd.prog 42 = some false := by kernel_rfl
theorem ag_5 : aggB Tryd.prog 5 = some false := by kernel_rfl
theorem ag_75 : aggB Tryd.prog 75 = some true := by kernel_rfl
theorem ag_79 : aggB Tryd.prog 79 = some true := by kernel_rfl
theorem ag_84 : aggB Tryd.prog 84 = some true := by kernel_rfl
theorem ag_86 : aggB Tryd.prog 86 = some true := by kernel_rfl
theorem ag_9 : aggB Tryd.prog 9 = some false := by kernel_rfl
theorem cn_2 : cellsN Tryd.prog 2 = some 1 := by kernel_rfl
theorem cn_3 : cellsN Tryd.prog 3 = some 1 := by kernel_rfl
theorem cn_4 : cellsN Tryd.prog 4 = some 1 := by kernel_rfl
theorem cn_42 : cellsN Tryd.prog 42 = some 1 := by kernel_rfl
theorem cn_5 : cellsN Tryd.prog 5 = some 1 := by kernel_rfl
theorem cn_75 : cellsN Tryd.prog 75 = some 11 := by kernel_rfl
theorem cn_79 : cellsN Tryd.prog 79 = some 3 := by kernel_rfl
theorem cn_84 : cellsN Tryd.prog 84 = some 3 := by kernel_rfl
theorem cn_86 : cellsN Tryd.prog 86 = some 9 := by kernel_rfl
theorem cn_9 : cellsN Tryd.prog 9 = some 1 := by kernel_rfl
theorem fo_127_0 : fieldOff Tryd.prog 127 0 = some 0 := by kernel_rfl
theorem fo_127_1 : fieldOff Tryd.prog 127 1 = some 1 := by kernel_rfl
theorem fo_127_2 : fieldOff Tryd.prog 127 2 = some 2 := by kernel_rfl
theorem fo_75_0 : fieldOff Tryd.prog 75 0 = some 0 := by kernel_rfl
theorem fo_75_1 : fieldOff Tryd.prog 75 1 = some 1 := by kernel_rfl
theorem fo_75_10 : fieldOff Tryd.prog 75 10 = some 10 := by kernel_rfl
theorem fo_75_2 : fieldOff Tryd.prog 75 2 = some 2 := by kernel_rfl
theorem fo_75_3 : fieldOff Tryd.prog 75 3 = some 3 := by kernel_rfl
theorem fo_75_4 : fieldOff Tryd.prog 75 4 = some 4 := by kernel_rfl
theorem fo_75_5 : fieldOff Tryd.prog 75 5 = some 5 := by kernel_rfl
theorem fo_75_6 : fieldOff Tryd.prog 75 6 = some 6 := by kernel_rfl
theorem fo_75_7 : fieldOff Tryd.prog 75 7 = some 7 := by kernel_rfl
theorem fo_75_8 : fieldOff Tryd.prog 75 8 = some 8 := by kernel_rfl
theorem fo_75_9 : fieldOff Tryd.prog 75 9 = some 9 := by kernel_rfl
theorem fo_79_0 : fieldOff Tryd.prog 79 0 = some 0 := by kernel_rfl
theorem fo_79_1 : fieldOff Tryd.prog 79 1 = some 1 := by kernel_rfl
theorem fo_79_2 : fieldOff Tryd.prog 79 2 = some 2 := by kernel_rfl
theorem fo_84_0 : fieldOff Tryd.prog 84 0 = some 0 := by kernel_rfl
theorem fo_84_1 : fieldOff Tryd.prog 84 1 = some 1 := by kernel_rfl
theorem fo_86_0 : fieldOff Tryd.prog 86 0 = some 0 := by kernel_rfl
theorem fo_86_1 : fieldOff Tryd.prog 86 1 = some 3 := by kernel_rfl
theorem fo_86_2 : fieldOff Tryd.prog 86 2 = some 6 := by kernel_rfl
theorem fo_86_3 : fieldOff Tryd.prog 86 3 = some 7 := by kernel_rfl
theorem fo_86_4 : fieldOff Tryd.prog 86 4 = some 8 := by kernel_rfl
theorem ft_79_0 : fieldT Tryd.prog 79 0 = some (2, 0) := by kernel_rfl
theorem ft_84_0 : fieldT Tryd.prog 84 0 = some (2, 0) := by kernel_rfl
theorem gf_100 : goFn Tryd.prog 100 = true := by kernel_rfl
theorem gf_101 : goFn Tryd.prog 101 = true := by kernel_rfl
theorem gf_102 : goFn Tryd.prog 102 = true := by kernel_rfl
theorem gf_103 : goFn Tryd.prog 103 = true := by kernel_rfl
theorem gf_104 : goFn Tryd.prog 104 = true := by kernel_rfl
theorem gf_109 : goFn Tryd.prog 109 = true := by kernel_rfl
theorem gf_115 : goFn Tryd.prog 115 = true := by kernel_rfl
theorem gf_120 : goFn Tryd.prog 120 = true := by kernel_rfl
theorem gf_121 : goFn Tryd.prog 121 = true := by kernel_rfl
theorem gf_129 : goFn Tryd.prog 129 = true := by kernel_rfl
theorem gf_13 : goFn Tryd.prog 13 = true := by kernel_rfl
theorem gf_130 : goFn Tryd.prog 130 = true := by kernel_rfl
theorem gf_131 : goFn Tryd.prog 131 = true := by kernel_rfl
theorem gf_132 : goFn Tryd.prog 132 = true := by kernel_rfl
theorem gf_133 : goFn Tryd.prog 133 = true := by kernel_rfl
theorem gf_134 : goFn Tryd.prog 134 = true := by kernel_rfl
theorem gf_135 : goFn Tryd.prog 135 = true := by kernel_rfl
theorem gf_138 : goFn Tryd.prog 138 = true := by kernel_rfl
theorem gf_139 : goFn Tryd.prog 139 = true := by kernel_rfl
theorem gf_144 : goFn Tryd.prog 144 = true := by kernel_rfl
theorem gf_149 : goFn Tryd.prog 149 = true := by kernel_rfl
theorem gf_15 : goFn Tryd.prog 15 = true := by kernel_rfl
theorem gf_150 : goFn Tryd.prog 150 = true := by kernel_rfl
theorem gf_168 : goFn Tryd.prog 168 = true := by kernel_rfl
theorem gf_18 : goFn Tryd.prog 18 = true := by kernel_rfl
theorem gf_20 : goFn Tryd.prog 20 = true := by kernel_rfl
theorem gf_22 : goFn Tryd.prog 22 = true := by kernel_rfl
theorem gf_23 : goFn Tryd.prog 23 = true := by kernel_rfl
theorem gf_29 : goFn Tryd.prog 29 = true := by kernel_rfl
theorem gf_30 : goFn Tryd.prog 30 = true := by kernel_rfl
theorem gf_47 : goFn Tryd.prog 47 = true := by kernel_rfl
theorem gf_48 : goFn Tryd.prog 48 = true := by kernel_rfl
theorem gf_51 : goFn Tryd.prog 51 = true := by kernel_rfl
theorem gf_52 : goFn Tryd.prog 52 = true := by kernel_rfl
theorem gf_53 : goFn Tryd.prog 53 = true := by kernel_rfl
theorem gf_54 : goFn Tryd.prog 54 = true := by kernel_rfl
theorem gf_55 : goFn Tryd.prog 55 = true := by kernel_rfl
theorem gf_56 : goFn Tryd.prog 56 = true := by kernel_rfl
theorem gf_57 : goFn Tryd.prog 57 = true := by kernel_rfl
theorem gf_58 : goFn Tryd.prog 58 = true := by kernel_rfl
theorem gf_59 : goFn Tryd.prog 59 = true := by kernel_rfl
theorem gf_60 : goFn Tryd.prog 60 = true := by kernel_rfl
theorem gf_61 : goFn Tryd.prog 61 = true := by kernel_rfl
theorem gf_62 : goFn Tryd.prog 62 = true := by kernel_rfl
theorem gf_64 : goFn Tryd.prog 64 = true := by kernel_rfl
theorem gf_65 : goFn Tryd.prog 65 = true := by kernel_rfl
theorem gf_71 : goFn Tryd.prog 71 = true := by kernel_rfl
theorem gf_82 : goFn Tryd.prog 82 = true := by kernel_rfl
theorem gf_93 : goFn Tryd.prog 93 = true := by kernel_rfl
theorem gf_94 : goFn Tryd.prog 94 = true := by kernel_rfl
theorem gf_95 : goFn Tryd.prog 95 = true := by kernel_rfl
theorem gf_96 : goFn Tryd.prog 96 = true := by kernel_rfl
theorem gf_97 : goFn Tryd.prog 97 = true := by kernel_rfl
theorem gf_98 : goFn Tryd.prog 98 = true := by kernel_rfl
theorem gf_99 : goFn Tryd.prog 99 = true := by kernel_rfl
theorem in_2 : infoN Tryd.prog 2 = some ([.int .i64 0], 1, 8) := by kernel_rfl
theorem in_42 : infoN Tryd.prog 42 = some ([.slice none 0 0], 1, 24) := by kernel_rfl
theorem in_5 : infoN Tryd.prog 5 = some ([.int .u8 0], 1, 1) := by kernel_rfl
theorem in_75 : infoN Tryd.prog 75 = some ([.string ByteArray.empty, .int .i64 0, .int .i64 0, .int .i64 0, .int .i64 0, .int .i64 0, .int .i64 0, .bool false, .int .i64 0, .int .i64 0, .int .i64 0], 11, 96) := by kernel_rfl
theorem in_9 : infoN Tryd.prog 9 = some ([.string ByteArray.empty], 1, 16) := by kernel_rfl
theorem pl_127 : placesN Tryd.prog 127 = some [(0, 1), (1, 1), (2, 1)] := by kernel_rfl
theorem pl_75 : placesN Tryd.prog 75 = some [(0, 1), (1, 1), (2, 1), (3, 1), (4, 1), (5, 1), (6, 1), (7, 1), (8, 1), (9, 1), (10, 1)] := by kernel_rfl
theorem pl_79 : placesN Tryd.prog 79 = some [(0, 1), (1, 1), (2, 1)] := by kernel_rfl
theorem pl_82 : placesN Tryd.prog 82 = some [(0, 1), (1, 1)] := by kernel_rfl
theorem pl_84 : placesN Tryd.prog 84 = some [(0, 1), (1, 2)] := by kernel_rfl
theorem pl_86 : placesN Tryd.prog 86 = some [(0, 3), (3, 3), (6, 1), (7, 1), (8, 1)] := by kernel_rfl
theorem zn_127 : zeroN Tryd.prog 127 = some [.slice none 0 0, .int .i64 0, .int .i64 0] := by kernel_rfl
theorem zn_75 : zeroN Tryd.prog 75 = some [.string ByteArray.empty, .int .i64 0, .int .i64 0, .int .i64 0, .int .i64 0, .int .i64 0, .int .i64 0, .bool false, .int .i64 0, .int .i64 0, .int .i64 0] := by kernel_rfl
theorem zn_79 : zeroN Tryd.prog 79 = some [.int .i64 0, .int .i64 0, .int .i64 0] := by kernel_rfl
theorem zn_82 : zeroN Tryd.prog 82 = some [.int .i64 0, .int .i64 0] := by kernel_rfl
theorem zn_84 : zeroN Tryd.prog 84 = some [.int .i64 0, .int .i64 0, .int .i64 0] := by kernel_rfl
theorem zn_86 : zeroN Tryd.prog 86 = some [.int .i64 0, .int .i64 0, .int .i64 0, .int .i64 0, .int .i64 0, .int .i64 0, .int .i64 0, .int .i64 0, .int .i64 0] := by kernel_rfl
-- loop.example/g00861/spec.l14Of
def F_spec_l14Of : Nat → (List S_Clock) → Int → Option S_l14Wave
  | 0 => fun _ _ => none
  | n + 1 => fun a0_list a1_k => (Option.bind (getI a0_list a1_k) fun x10 => (bif decide (x10.Source < 0) then (some ((S_l14Wave.mk x10.Period x10.RiseAt x10.FallAt))) else (Option.bind (F_spec_l14Of n a0_list x10.Source) fun r37 => (bif decide (x10.Divide > 1) then (bif x10.Invert then (some ((S_l14Wave.mk (IntKind.wrap IntKind.i64 (r37.period_ * x10.Divide)) (IntKind.wrap IntKind.i64 (r37.rise_ + (IntKind.wrap IntKind.i64 ((IntKind.wrap IntKind.i64 (Int.tdiv x10.Divide 2)) * r37.period_)))) r37.rise_))) else (some ((S_l14Wave.mk (IntKind.wrap IntKind.i64 (r37.period_ * x10.Divide)) r37.rise_ (IntKind.wrap IntKind.i64 (r37.rise_ + (IntKind.wrap IntKind.i64 ((IntKind.wrap IntKind.i64 (Int.tdiv x10.Divide 2)) * r37.period_)))))))) else (bif x10.Invert then (some ((S_l14Wave.mk r37.period_ r37.fall_ r37.rise_))) else (some r37))))))
theorem F_spec_l14Of_z (a0_list : List S_Clock) (a1_k : Int) : F_spec_l14Of 0 a0_list a1_k = none := rfl
theorem F_spec_l14Of_s (n : Nat) (a0_list : List S_Clock) (a1_k : Int) : F_spec_l14Of (n + 1) a0_list a1_k = (Option.bind (getI a0_list a1_k) fun x10 => (bif decide (x10.Source < 0) then (some ((S_l14Wave.mk x10.Period x10.RiseAt x10.FallAt))) else (Option.bind (F_spec_l14Of n a0_list x10.Source) fun r37 => (bif decide (x10.Divide > 1) then (bif x10.Invert then (some ((S_l14Wave.mk (IntKind.wrap IntKind.i64 (r37.period_ * x10.Divide)) (IntKind.wrap IntKind.i64 (r37.rise_ + (IntKind.wrap IntKind.i64 ((IntKind.wrap IntKind.i64 (Int.tdiv x10.Divide 2)) * r37.period_)))) r37.rise_))) else (some ((S_l14Wave.mk (IntKind.wrap IntKind.i64 (r37.period_ * x10.Divide)) r37.rise_ (IntKind.wrap IntKind.i64 (r37.rise_ + (IntKind.wrap IntKind.i64 ((IntKind.wrap IntKind.i64 (Int.tdiv x10.Divide 2)) * r37.period_)))))))) else (bif x10.Invert then (some ((S_l14Wave.mk r37.period_ r37.fall_ r37.rise_))) else (some r37)))))) := rfl
set_option maxHeartbeats 40000000 in
theorem W_spec_l14Of {n : Nat} {a0_list : List S_Clock} {a1_k : Int} {r : S_l14Wave} {w : World} {v1 : Value} (hF : F_spec_l14Of n a0_list a1_k = some r) (ha2 : slRep C_Clock w (Iv 0 w.heap.size) a0_list v1) :
    Calls Tryd.prog 51 [v1, .int .i64 a1_k].toArray w (Ret fun u w2 => u = .agg #[.int .i64 r.period_, .int .i64 r.rise_, .int .i64 r.fall_] ∧ Ext w w2) := by
  cases n with
  | zero => rw [F_spec_l14Of_z] at hF; cases hF
  | succ n =>
    refine calls_of Tryd.func51 rfl Tryd.ntmps51 ?_
    have he0 : Ext w w := Ext.refl w
    rw [F_spec_l14Of_s] at hF
    refine WC.seq ?_
    refine WC.region ?_
    refine TL.eff rfl rfl (eff_alloc rfl zn_79) ?_
    rintro _ w4 ⟨b3, rfl, hn5⟩
    obtain ⟨hn5e, hn5s, hn5x, hb6⟩ := hn5
    have hb6 : Box w4 b3 [.int .i64 0, .int .i64 0, .int .i64 0] 79 := hb6
    have he8 : Ext w w4 := Ext.trans he0 hn5x
    have hz9 := (hn5x).size
    have hlo7 : w.heap.size ≤ b3 := by rw [hn5e]; exact (he0).size
    refine TL.done ?_
    refine NX.seq ?_
    refine WC.seq ?_
    refine WC.region ?_
    refine TL.yld rfl rfl (yld_move rfl rfl) ?_
    refine TL.yld rfl rfl (yld_move rfl rfl) ?_
    obtain ⟨x10, hy11, hF⟩ := bsome hF
    refine TL.ye rfl rfl (ye_index (c := C_Clock) rfl Tryd.underlying26 cn_75 rfl rfl (slRep.old ha2 he8 (Nat.le_refl _)) hy11) ?_
    rintro _ ⟨b12, o13, us14, rfl, hib17, hr15, hcl16⟩
    have hib17 : 0 ≤ b12 ∧ b12 < w.heap.size := ⟨hib17.1, by have := hib17.2; omega⟩
    obtain rfl := C_Clock_open hr15
    refine TL.yld rfl rfl (yld_loadN (us := [.string x10.Name, .int .i64 x10.Place, .int .i64 x10.Period, .int .i64 x10.RiseAt, .int .i64 x10.FallAt, .int .i64 x10.Source, .int .i64 x10.Divide, .bool x10.Invert, .int .i64 x10.EarlyLatency, .int .i64 x10.LateLatency, .int .i64 x10.Uncertainty]) rfl ag_75 rfl hcl16 cn_75) ?_
    refine TL.eff rfl rfl (eff_alloc rfl zn_75) ?_
    rintro _ w19 ⟨b18, rfl, hn20⟩
    obtain ⟨hn20e, hn20s, hn20x, hb21⟩ := hn20
    have hb21 : Box w19 b18 [.string ByteArray.empty, .int .i64 0, .int .i64 0, .int .i64 0, .int .i64 0, .int .i64 0, .int .i64 0, .bool false, .int .i64 0, .int .i64 0, .int .i64 0] 75 := hb21
    have he23 : Ext w w19 := Ext.trans he8 hn20x
    have hb6 := Box.ext hb6 hn20x
    have hz24 := (hn20x).size
    have hlo22 : w.heap.size ≤ b18 := by rw [hn20e]; exact (he8).size
    refine TL.eff rfl rfl (eff_store rfl rfl rfl hb21 cn_75 rfl rfl) ?_
    rintro _ w25 ⟨hu26, hb27⟩
    have he28 : Ext w w25 := Below.trans he23 (Upd.below hu26 (by omega))
    have hb6 := Box.upd hb6 hu26 (by omega)
    have hz29 := (hu26).size
    have hb21 : Box w25 b18 [.string x10.Name, .int .i64 x10.Place, .int .i64 x10.Period, .int .i64 x10.RiseAt, .int .i64 x10.FallAt, .int .i64 x10.Source, .int .i64 x10.Divide, .bool x10.Invert, .int .i64 x10.EarlyLatency, .int .i64 x10.LateLatency, .int .i64 x10.Uncertainty] 75 := hb27
    refine TL.done ?_
    refine NX.seq ?_
    refine WC.seq ?_
    refine WC.seq ?_
    refine WC.region ?_
    refine TL.yld rfl rfl (yld_fieldAddr rfl fo_75_5 rfl) ?_
    refine TL.yld rfl rfl (yld_load1 5 rfl ag_2 rfl (Box.cells hb21) rfl rfl) ?_
    refine TL.yld rfl rfl (yld_lss rfl rfl rfl) ?_
    refine TL.done ?_
    refine NX.seq ?_
    refine WC.cond rfl ?_ ?_
    · intro hc30
      replace hF := bif_t hc30 hF
      refine WC.seq ?_
      refine WC.region ?_
      refine TL.yld rfl rfl (yld_fieldAddr rfl fo_75_2 rfl) ?_
      refine TL.yld rfl rfl (yld_load1 2 rfl ag_2 rfl (Box.cells hb21) rfl rfl) ?_
      refine TL.yld rfl rfl (yld_fieldAddr rfl fo_75_3 rfl) ?_
      refine TL.yld rfl rfl (yld_load1 3 rfl ag_2 rfl (Box.cells hb21) rfl rfl) ?_
      refine TL.yld rfl rfl (yld_fieldAddr rfl fo_75_4 rfl) ?_
      refine TL.yld rfl rfl (yld_load1 4 rfl ag_2 rfl (Box.cells hb21) rfl rfl) ?_
      refine TL.yld rfl rfl (yld_build (uss := [(0, [.int .i64 x10.Period]), (1, [.int .i64 x10.RiseAt]), (2, [.int .i64 x10.FallAt])]) (out := [.int .i64 x10.Period, .int .i64 x10.RiseAt, .int .i64 x10.FallAt]) rfl rfl zn_79 pl_79 rfl rfl) ?_
      refine TL.eff rfl rfl (eff_store rfl rfl rfl hb6 cn_79 rfl rfl) ?_
      rintro _ w31 ⟨hu32, hb33⟩
      have he34 : Ext w w31 := Below.trans he28 (Upd.below hu32 (by omega))
      have hb21 := Box.upd hb21 hu32 (by omega)
      have hz35 := (hu32).size
      have hb6 : Box w31 b3 [.int .i64 x10.Period, .int .i64 x10.RiseAt, .int .i64 x10.FallAt] 79 := hb33
      refine TL.done ?_
      refine NX.seq ?_
      refine WC.ret' ?_
      refine NX.then_r ?_
      obtain rfl := Option.some.inj hF
      exact NX.end (rs := [.cell 4 79]) (vs := [.agg #[.int .i64 x10.Period, .int .i64 x10.RiseAt, .int .i64 x10.FallAt]]) rfl ⟨⟨b3, rfl, box_load ag_79 cn_79 hb6⟩, trivial⟩ ⟨_, rfl, rfl, he34⟩
    · intro hc36
      replace hF := bif_f hc36 hF
      refine WC.skip' ?_
      refine NX.seq ?_
      refine WC.seq ?_
      refine WC.region ?_
      refine TL.yld rfl rfl (yld_move rfl rfl) ?_
      refine TL.yld rfl rfl (yld_fieldAddr rfl fo_75_5 rfl) ?_
      refine TL.yld rfl rfl (yld_load1 5 rfl ag_2 rfl (Box.cells hb21) rfl rfl) ?_
      obtain ⟨r37, hr38, hF⟩ := bsome hF
      refine TL.eff rfl rfl (eff_call rfl gf_51 rfl (W_spec_l14Of hr38 ((slRep.old ha2 he28 (Nat.le_refl _)).wide (Nat.le_refl _) (he28).size))) ?_
      rintro _ w39 ⟨rfl, hx40⟩
      have he41 : Ext w w39 := Ext.trans he28 hx40
      have hb6 := Box.ext hb6 hx40
      have hb21 := Box.ext hb21 hx40
      have hz42 := (hx40).size
      refine TL.eff rfl rfl (eff_alloc rfl zn_79) ?_
      rintro _ w44 ⟨b43, rfl, hn45⟩
      obtain ⟨hn45e, hn45s, hn45x, hb46⟩ := hn45
      have hb46 : Box w44 b43 [.int .i64 0, .int .i64 0, .int .i64 0] 79 := hb46
      have he48 : Ext w w44 := Ext.trans he41 hn45x
      have hb6 := Box.ext hb6 hn45x
      have hb21 := Box.ext hb21 hn45x
      have hz49 := (hn45x).size
      have hlo47 : w.heap.size ≤ b43 := by rw [hn45e]; exact (he41).size
      refine TL.eff rfl rfl (eff_store rfl rfl rfl hb46 cn_79 rfl rfl) ?_
      rintro _ w50 ⟨hu51, hb52⟩
      have he53 : Ext w w50 := Below.trans he48 (Upd.below hu51 (by omega))
      have hb6 := Box.upd hb6 hu51 (by omega)
      have hb21 := Box.upd hb21 hu51 (by omega)
      have hz54 := (hu51).size
      have hb46 : Box w50 b43 [.int .i64 r37.period_, .int .i64 r37.rise_, .int .i64 r37.fall_] 79 := hb52
      refine TL.done ?_
      refine NX.seq ?_
      refine WC.seq ?_
      refine WC.seq ?_
      refine WC.region ?_
      refine TL.yld rfl rfl (yld_fieldAddr rfl fo_75_6 rfl) ?_
      refine TL.yld rfl rfl (yld_load1 6 rfl ag_2 rfl (Box.cells hb21) rfl rfl) ?_
      refine TL.yld rfl rfl (yld_gtr rfl rfl rfl) ?_
      refine TL.done ?_
      refine NX.seq ?_
      refine WC.cond rfl ?_ ?_
      · intro hc55
        replace hF := bif_t hc55 hF
        refine WC.region ?_
        refine TL.yld rfl rfl (yld_fieldAddr rfl fo_79_0 rfl) ?_
        refine TL.yld rfl rfl (yld_load1 0 rfl ag_2 rfl (Box.cells hb46) rfl rfl) ?_
        refine TL.yld rfl rfl (yld_fieldAddr rfl fo_75_6 rfl) ?_
        refine TL.yld rfl rfl (yld_load1 6 rfl ag_2 rfl (Box.cells hb21) rfl rfl) ?_
        refine TL.yld rfl rfl (yld_mul rfl rfl rfl) ?_
        refine TL.yld rfl rfl (yld_fieldAddr rfl fo_79_1 rfl) ?_
        refine TL.yld rfl rfl (yld_load1 1 rfl ag_2 rfl (Box.cells hb46) rfl rfl) ?_
        refine TL.yld rfl rfl (yld_fieldAddr rfl fo_79_1 rfl) ?_
        refine TL.yld rfl rfl (yld_load1 1 rfl ag_2 rfl (Box.cells hb46) rfl rfl) ?_
        refine TL.yld rfl rfl (yld_fieldAddr rfl fo_75_6 rfl) ?_
        refine TL.yld rfl rfl (yld_load1 6 rfl ag_2 rfl (Box.cells hb21) rfl rfl) ?_
        refine TL.yld rfl rfl (yld_quo rfl rfl rfl (by decide)) ?_
        refine TL.yld rfl rfl (yld_fieldAddr rfl fo_79_0 rfl) ?_
        refine TL.yld rfl rfl (yld_load1 0 rfl ag_2 rfl (Box.cells hb46) rfl rfl) ?_
        refine TL.yld rfl rfl (yld_mul rfl rfl rfl) ?_
        refine TL.yld rfl rfl (yld_add rfl rfl rfl) ?_
        refine TL.yld rfl rfl (yld_build (uss := [(0, [.int .i64 (IntKind.wrap IntKind.i64 (r37.period_ * x10.Divide))]), (1, [.int .i64 r37.rise_]), (2, [.int .i64 (IntKind.wrap IntKind.i64 (r37.rise_ + (IntKind.wrap IntKind.i64 ((IntKind.wrap IntKind.i64 (Int.tdiv x10.Divide 2)) * r37.period_))))])]) (out := [.int .i64 (IntKind.wrap IntKind.i64 (r37.period_ * x10.Divide)), .int .i64 r37.rise_, .int .i64 (IntKind.wrap IntKind.i64 (r37.rise_ + (IntKind.wrap IntKind.i64 ((IntKind.wrap IntKind.i64 (Int.tdiv x10.Divide 2)) * r37.period_))))]) rfl rfl zn_79 pl_79 rfl rfl) ?_
        refine TL.eff rfl rfl (eff_store rfl rfl rfl hb46 cn_79 rfl rfl) ?_
        rintro _ w56 ⟨hu57, hb58⟩
        have he59 : Ext w w56 := Below.trans he53 (Upd.below hu57 (by omega))
        have hb6 := Box.upd hb6 hu57 (by omega)
        have hb21 := Box.upd hb21 hu57 (by omega)
        have hz60 := (hu57).size
        have hb46 : Box w56 b43 [.int .i64 (IntKind.wrap IntKind.i64 (r37.period_ * x10.Divide)), .int .i64 r37.rise_, .int .i64 (IntKind.wrap IntKind.i64 (r37.rise_ + (IntKind.wrap IntKind.i64 ((IntKind.wrap IntKind.i64 (Int.tdiv x10.Divide 2)) * r37.period_))))] 79 := hb58
        refine TL.done ?_
        refine NX.seq ?_
        refine WC.seq ?_
        refine WC.seq ?_
        refine WC.region ?_
        refine TL.yld rfl rfl (yld_fieldAddr rfl fo_75_7 rfl) ?_
        refine TL.yld rfl rfl (yld_load1 7 rfl ag_4 rfl (Box.cells hb21) rfl rfl) ?_
        refine TL.done ?_
        refine NX.seq ?_
        refine WC.cond rfl ?_ ?_
        · intro hc61
          replace hF := bif_t hc61 hF
          refine WC.region ?_
          refine TL.yld rfl rfl (yld_fieldAddr rfl fo_79_0 rfl) ?_
          refine TL.yld rfl rfl (yld_load1 0 rfl ag_2 rfl (Box.cells hb46) rfl rfl) ?_
          refine TL.yld rfl rfl (yld_fieldAddr rfl fo_79_2 rfl) ?_
          refine TL.yld rfl rfl (yld_load1 2 rfl ag_2 rfl (Box.cells hb46) rfl rfl) ?_
          refine TL.yld rfl rfl (yld_fieldAddr rfl fo_79_1 rfl) ?_
          refine TL.yld rfl rfl (yld_load1 1 rfl ag_2 rfl (Box.cells hb46) rfl rfl) ?_
          refine TL.yld rfl rfl (yld_build (uss := [(0, [.int .i64 (IntKind.wrap IntKind.i64 (r37.period_ * x10.Divide))]), (1, [.int .i64 (IntKind.wrap IntKind.i64 (r37.rise_ + (IntKind.wrap IntKind.i64 ((IntKind.wrap IntKind.i64 (Int.tdiv x10.Divide 2)) * r37.period_))))]), (2, [.int .i64 r37.rise_])]) (out := [.int .i64 (IntKind.wrap IntKind.i64 (r37.period_ * x10.Divide)), .int .i64 (IntKind.wrap IntKind.i64 (r37.rise_ + (IntKind.wrap IntKind.i64 ((IntKind.wrap IntKind.i64 (Int.tdiv x10.Divide 2)) * r37.period_)))), .int .i64 r37.rise_]) rfl rfl zn_79 pl_79 rfl rfl) ?_
          refine TL.eff rfl rfl (eff_store rfl rfl rfl hb46 cn_79 rfl rfl) ?_
          rintro _ w62 ⟨hu63, hb64⟩
          have he65 : Ext w w62 := Below.trans he59 (Upd.below hu63 (by omega))
          have hb6 := Box.upd hb6 hu63 (by omega)
          have hb21 := Box.upd hb21 hu63 (by omega)
          have hz66 := (hu63).size
          have hb46 : Box w62 b43 [.int .i64 (IntKind.wrap IntKind.i64 (r37.period_ * x10.Divide)), .int .i64 (IntKind.wrap IntKind.i64 (r37.rise_ + (IntKind.wrap IntKind.i64 ((IntKind.wrap IntKind.i64 (Int.tdiv x10.Divide 2)) * r37.period_)))), .int .i64 r37.rise_] 79 := hb64
          refine TL.done ?_
          refine NX.seq ?_
          refine WC.seq ?_
          refine WC.region ?_
          refine TL.yld rfl rfl (yld_loadN (us := [.int .i64 (IntKind.wrap IntKind.i64 (r37.period_ * x10.Divide)), .int .i64 (IntKind.wrap IntKind.i64 (r37.rise_ + (IntKind.wrap IntKind.i64 ((IntKind.wrap IntKind.i64 (Int.tdiv x10.Divide 2)) * r37.period_)))), .int .i64 r37.rise_]) rfl ag_79 rfl (Box.cells hb46) cn_79) ?_
          refine TL.eff rfl rfl (eff_store rfl rfl rfl hb6 cn_79 rfl rfl) ?_
          rintro _ w67 ⟨hu68, hb69⟩
          have he70 : Ext w w67 := Below.trans he65 (Upd.below hu68 (by omega))
          have hb21 := Box.upd hb21 hu68 (by omega)
          have hb46 := Box.upd hb46 hu68 (by omega)
          have hz71 := (hu68).size
          have hb6 : Box w67 b3 [.int .i64 (IntKind.wrap IntKind.i64 (r37.period_ * x10.Divide)), .int .i64 (IntKind.wrap IntKind.i64 (r37.rise_ + (IntKind.wrap IntKind.i64 ((IntKind.wrap IntKind.i64 (Int.tdiv x10.Divide 2)) * r37.period_)))), .int .i64 r37.rise_] 79 := hb69
          refine TL.done ?_
          refine NX.seq ?_
          refine WC.ret' ?_
          obtain rfl := Option.some.inj hF
          exact NX.end (rs := [.cell 4 79]) (vs := [.agg #[.int .i64 (IntKind.wrap IntKind.i64 (r37.period_ * x10.Divide)), .int .i64 (IntKind.wrap IntKind.i64 (r37.rise_ + (IntKind.wrap IntKind.i64 ((IntKind.wrap IntKind.i64 (Int.tdiv x10.Divide 2)) * r37.period_)))), .int .i64 r37.rise_]]) rfl ⟨⟨b3, rfl, box_load ag_79 cn_79 hb6⟩, trivial⟩ ⟨_, rfl, rfl, he70⟩
        · intro hc72
          replace hF := bif_f hc72 hF
          refine WC.skip' ?_
          refine NX.seq ?_
          refine WC.seq ?_
          refine WC.region ?_
          refine TL.yld rfl rfl (yld_loadN (us := [.int .i64 (IntKind.wrap IntKind.i64 (r37.period_ * x10.Divide)), .int .i64 r37.rise_, .int .i64 (IntKind.wrap IntKind.i64 (r37.rise_ + (IntKind.wrap IntKind.i64 ((IntKind.wrap IntKind.i64 (Int.tdiv x10.Divide 2)) * r37.period_))))]) rfl ag_79 rfl (Box.cells hb46) cn_79) ?_
          refine TL.eff rfl rfl (eff_store rfl rfl rfl hb6 cn_79 rfl rfl) ?_
          rintro _ w73 ⟨hu74, hb75⟩
          have he76 : Ext w w73 := Below.trans he59 (Upd.below hu74 (by omega))
          have hb21 := Box.upd hb21 hu74 (by omega)
          have hb46 := Box.upd hb46 hu74 (by omega)
          have hz77 := (hu74).size
          have hb6 : Box w73 b3 [.int .i64 (IntKind.wrap IntKind.i64 (r37.period_ * x10.Divide)), .int .i64 r37.rise_, .int .i64 (IntKind.wrap IntKind.i64 (r37.rise_ + (IntKind.wrap IntKind.i64 ((IntKind.wrap IntKind.i64 (Int.tdiv x10.Divide 2)) * r37.period_))))] 79 := hb75
          refine TL.done ?_
          refine NX.seq ?_
          refine WC.ret' ?_
          obtain rfl := Option.some.inj hF
          exact NX.end (rs := [.cell 4 79]) (vs := [.agg #[.int .i64 (IntKind.wrap IntKind.i64 (r37.period_ * x10.Divide)), .int .i64 r37.rise_, .int .i64 (IntKind.wrap IntKind.i64 (r37.rise_ + (IntKind.wrap IntKind.i64 ((IntKind.wrap IntKind.i64 (Int.tdiv x10.Divide 2)) * r37.period_))))]]) rfl ⟨⟨b3, rfl, box_load ag_79 cn_79 hb6⟩, trivial⟩ ⟨_, rfl, rfl, he76⟩
      · intro hc78
        replace hF := bif_f hc78 hF
        refine WC.skip' ?_
        refine NX.seq ?_
        refine WC.seq ?_
        refine WC.seq ?_
        refine WC.region ?_
        refine TL.yld rfl rfl (yld_fieldAddr rfl fo_75_7 rfl) ?_
        refine TL.yld rfl rfl (yld_load1 7 rfl ag_4 rfl (Box.cells hb21) rfl rfl) ?_
        refine TL.done ?_
        refine NX.seq ?_
        refine WC.cond rfl ?_ ?_
        · intro hc79
          replace hF := bif_t hc79 hF
          refine WC.region ?_
          refine TL.yld rfl rfl (yld_fieldAddr rfl fo_79_0 rfl) ?_
          refine TL.yld rfl rfl (yld_load1 0 rfl ag_2 rfl (Box.cells hb46) rfl rfl) ?_
          refine TL.yld rfl rfl (yld_fieldAddr rfl fo_79_2 rfl) ?_
          refine TL.yld rfl rfl (yld_load1 2 rfl ag_2 rfl (Box.cells hb46) rfl rfl) ?_
          refine TL.yld rfl rfl (yld_fieldAddr rfl fo_79_1 rfl) ?_
          refine TL.yld rfl rfl (yld_load1 1 rfl ag_2 rfl (Box.cells hb46) rfl rfl) ?_
          refine TL.yld rfl rfl (yld_build (uss := [(0, [.int .i64 r37.period_]), (1, [.int .i64 r37.fall_]), (2, [.int .i64 r37.rise_])]) (out := [.int .i64 r37.period_, .int .i64 r37.fall_, .int .i64 r37.rise_]) rfl rfl zn_79 pl_79 rfl rfl) ?_
          refine TL.eff rfl rfl (eff_store rfl rfl rfl hb46 cn_79 rfl rfl) ?_
          rintro _ w80 ⟨hu81, hb82⟩
          have he83 : Ext w w80 := Below.trans he53 (Upd.below hu81 (by omega))
          have hb6 := Box.upd hb6 hu81 (by omega)
          have hb21 := Box.upd hb21 hu81 (by omega)
          have hz84 := (hu81).size
          have hb46 : Box w80 b43 [.int .i64 r37.period_, .int .i64 r37.fall_, .int .i64 r37.rise_] 79 := hb82
          refine TL.done ?_
          refine NX.seq ?_
          refine WC.seq ?_
          refine WC.region ?_
          refine TL.yld rfl rfl (yld_loadN (us := [.int .i64 r37.period_, .int .i64 r37.fall_, .int .i64 r37.rise_]) rfl ag_79 rfl (Box.cells hb46) cn_79) ?_
          refine TL.eff rfl rfl (eff_store rfl rfl rfl hb6 cn_79 rfl rfl) ?_
          rintro _ w85 ⟨hu86, hb87⟩
          have he88 : Ext w w85 := Below.trans he83 (Upd.below hu86 (by omega))
          have hb21 := Box.upd hb21 hu86 (by omega)
          have hb46 := Box.upd hb46 hu86 (by omega)
          have hz89 := (hu86).size
          have hb6 : Box w85 b3 [.int .i64 r37.period_, .int .i64 r37.fall_, .int .i64 r37.rise_] 79 := hb87
          refine TL.done ?_
          refine NX.seq ?_
          refine WC.ret' ?_
          obtain rfl := Option.some.inj hF
          exact NX.end (rs := [.cell 4 79]) (vs := [.agg #[.int .i64 r37.period_, .int .i64 r37.fall_, .int .i64 r37.rise_]]) rfl ⟨⟨b3, rfl, box_load ag_79 cn_79 hb6⟩, trivial⟩ ⟨_, rfl, rfl, he88⟩
        · intro hc90
          replace hF := bif_f hc90 hF
          refine WC.skip' ?_
          refine NX.seq ?_
          refine WC.seq ?_
          refine WC.region ?_
          refine TL.yld rfl rfl (yld_loadN (us := [.int .i64 r37.period_, .int .i64 r37.rise_, .int .i64 r37.fall_]) rfl ag_79 rfl (Box.cells hb46) cn_79) ?_
          refine TL.eff rfl rfl (eff_store rfl rfl rfl hb6 cn_79 rfl rfl) ?_
          rintro _ w91 ⟨hu92, hb93⟩
          have he94 : Ext w w91 := Below.trans he53 (Upd.below hu92 (by omega))
          have hb21 := Box.upd hb21 hu92 (by omega)
          have hb46 := Box.upd hb46 hu92 (by omega)
          have hz95 := (hu92).size
          have hb6 : Box w91 b3 [.int .i64 r37.period_, .int .i64 r37.rise_, .int .i64 r37.fall_] 79 := hb93
          refine TL.done ?_
          refine NX.seq ?_
          refine WC.ret' ?_
          obtain rfl := Option.some.inj hF
          exact NX.end (rs := [.cell 4 79]) (vs := [.agg #[.int .i64 r37.period_, .int .i64 r37.rise_, .int .i64 r37.fall_]]) rfl ⟨⟨b3, rfl, box_load ag_79 cn_79 hb6⟩, trivial⟩ ⟨_, rfl, rfl, he94⟩
termination_by n

-- loop.example/g00861/spec.l01In
def F_spec_l01In (n : Nat) (a0_n : Int) (a1_low : Int) (a2_high : Int) : Option Bool := (some (((decide (a0_n ≥ a1_low)) && (decide (a0_n ≤ a2_high)))))
set_option maxHeartbeats 40000000 in
theorem W_spec_l01In {n : Nat} {a0_n : Int} {a1_low : Int} {a2_high : Int} {r : Bool} {w : World} (hF : F_spec_l01In n a0_n a1_low a2_high = some r) :
    Calls Tryd.prog 52 [.int .i64 a0_n, .int .i64 a1_low, .int .i64 a2_high].toArray w (Ret fun u w2 => u = .bool r ∧ Ext w w2) := by
  refine calls_of Tryd.func52 rfl Tryd.ntmps52 ?_
  have he0 : Ext w w := Ext.refl w
  unfold F_spec_l01In at hF
  refine WC.seq ?_
  refine WC.region ?_
  refine TL.yld rfl rfl (yld_assign rfl rfl) ?_
  refine TL.done ?_
  refine NX.seq ?_
  refine WC.seq ?_
  refine WC.region ?_
  refine TL.yld rfl rfl (yld_move rfl rfl) ?_
  refine TL.yld rfl rfl (yld_move rfl rfl) ?_
  refine TL.yld rfl rfl (yld_geq rfl rfl rfl) ?_
  refine TL.yld rfl rfl (yld_move rfl rfl) ?_
  refine TL.cut 4 [(14, .bool (((decide (a0_n ≥ a1_low)) && (decide (a0_n ≤ a2_high)))))] (fun w' => Ext w w') ?_ ?_
  · rcases Bool.eq_false_or_eq_true (decide (a0_n ≥ a1_low)) with hg1 | hg1
    ·
      refine TL.gy (j := 3) (t := 10) rfl rfl rfl hg1 rfl (yld_move rfl rfl) ?_
      refine TL.gy (j := 3) (t := 10) rfl rfl rfl hg1 rfl (yld_move rfl rfl) ?_
      refine TL.gy (j := 3) (t := 10) rfl rfl rfl hg1 rfl (yld_leq rfl rfl rfl) ?_
      refine TL.yld rfl rfl (yld_and_t rfl rfl hg1 rfl) ?_
      exact TL.nil fun a h => ⟨h.weaken ⟨rfl, trivial⟩, Ext.refl _⟩
    ·
      refine TL.gnu (j := 3) (t := 10) rfl rfl rfl hg1 rfl ?_
      refine TL.gnu (j := 3) (t := 10) rfl rfl rfl hg1 rfl ?_
      refine TL.gnu (j := 3) (t := 10) rfl rfl rfl hg1 rfl ?_
      refine TL.yld rfl rfl (yld_and_f (b2 := decide (a0_n ≤ a2_high)) rfl rfl hg1 rfl) ?_
      exact TL.nil fun a h => ⟨h.weaken ⟨rfl, trivial⟩, Ext.refl _⟩
  intro w2 hx3
  have he4 : Ext w w2 := Ext.trans he0 hx3
  have hz5 := (hx3).size
  refine TL.yld rfl rfl (yld_assign rfl rfl) ?_
  refine TL.done ?_
  refine NX.seq ?_
  refine WC.ret' ?_
  obtain rfl := Option.some.inj hF
  exact NX.end (rs := [.tmp 6]) (vs := [.bool (((decide (a0_n ≥ a1_low)) && (decide (a0_n ≤ a2_high))))]) rfl ⟨rfl, trivial⟩ ⟨_, rfl, rfl, he4⟩

-- loop.example/g00861/spec.l03Name
def F_spec_l03Name_L1 (a0_s : ByteArray) (k0 : Int → Option Bool) : Nat → Int → Option Bool
  | 0 => fun _ => none
  | m + 1 => fun i3 => (bif decide (i3 < (a0_s.size : Int)) then (Option.bind (getB a0_s i3) fun x5 => (Option.bind (bif decide (x5 ≥ 97) then (Option.bind (getB a0_s i3) fun x7 => (some (decide (x7 ≤ 122)))) else (some false)) fun c7 => (Option.bind (getB a0_s i3) fun x16 => (Option.bind (bif decide (x16 ≥ 48) then (Option.bind (getB a0_s i3) fun x18 => (some (decide (x18 ≤ 57)))) else (some false)) fun c18 => (bif ((!c7) && ((!((c18 && (decide (i3 > 0))))))) then (some false) else (F_spec_l03Name_L1 a0_s k0 m (IntKind.wrap IntKind.i64 (i3 + 1)))))))) else (k0 i3))
theorem F_spec_l03Name_L1_z (a0_s : ByteArray) (k0 : Int → Option Bool) (i3 : Int) : F_spec_l03Name_L1 a0_s k0 0 i3 = none := rfl
theorem F_spec_l03Name_L1_s (m : Nat) (a0_s : ByteArray) (k0 : Int → Option Bool) (i3 : Int) : F_spec_l03Name_L1 a0_s k0 (m + 1) i3 = (bif decide (i3 < (a0_s.size : Int)) then (Option.bind (getB a0_s i3) fun x5 => (Option.bind (bif decide (x5 ≥ 97) then (Option.bind (getB a0_s i3) fun x7 => (some (decide (x7 ≤ 122)))) else (some false)) fun c7 => (Option.bind (getB a0_s i3) fun x16 => (Option.bind (bif decide (x16 ≥ 48) then (Option.bind (getB a0_s i3) fun x18 => (some (decide (x18 ≤ 57)))) else (some false)) fun c18 => (bif ((!c7) && ((!((c18 && (decide (i3 > 0))))))) then (some false) else (F_spec_l03Name_L1 a0_s k0 m (IntKind.wrap IntKind.i64 (i3 + 1)))))))) else (k0 i3)) := rfl

def F_spec_l03Name (n : Nat) (a0_s : ByteArray) : Option Bool := (F_spec_l03Name_L1 a0_s (fun i3 => (some (((decide ((a0_s.size : Int) ≥ 1)) && (decide ((a0_s.size : Int) ≤ 8)))))) n 0)
set_option maxHeartbeats 40000000 in
theorem W_spec_l03Name {n : Nat} {a0_s : ByteArray} {r : Bool} {w : World} (hF : F_spec_l03Name n a0_s = some r) :
    Calls Tryd.prog 115 [.string a0_s].toArray w (Ret fun u w2 => u = .bool r ∧ Ext w w2) := by
  refine calls_of Tryd.func115 rfl Tryd.ntmps115 ?_
  have he0 : Ext w w := Ext.refl w
  unfold F_spec_l03Name at hF
  refine WC.seq ?_
  refine WC.region ?_
  refine TL.yld rfl rfl (yld_assign rfl rfl) ?_
  refine TL.done ?_
  refine NX.seq ?_
  refine WC.seq ?_
  refine WC.seq ?_
  refine WC.region ?_
  refine TL.yld rfl rfl (yld_assign rfl rfl) ?_
  refine TL.done ?_
  refine NX.seq ?_
  refine WC.block ?_
  refine WC.loop (fun m4 a wl => ∃ (i3 : Int), Kn 50 [(0, .string a0_s), (3, .int .i64 i3)] a ∧ Ext w wl ∧ w.heap.size ≤ wl.heap.size ∧ F_spec_l03Name_L1 a0_s (fun i3 => (some (((decide ((a0_s.size : Int) ≥ 1)) && (decide ((a0_s.size : Int) ≤ 8)))))) m4 i3 = some r) n ?_ ?_
  · intro a hK; exact ⟨0, hK.weaken ⟨rfl, rfl, trivial⟩, he0, Nat.le_refl _, hF⟩
  · rintro m4 a w1 ⟨i3, hK, he2, hz5, hF⟩
    revert hK; revert a; refine (?_ : WC _ _ _ _ _ _)
    cases m4 with
    | zero => rw [F_spec_l03Name_L1_z] at hF; cases hF
    | succ m4 =>
      rw [F_spec_l03Name_L1_s] at hF
      refine WC.seq ?_
      refine WC.seq ?_
      refine WC.region ?_
      refine TL.yld rfl rfl (yld_move rfl rfl) ?_
      refine TL.yld rfl rfl (yld_move rfl rfl) ?_
      refine TL.yld rfl rfl (yld_lens rfl Tryd.underlying9 rfl) ?_
      refine TL.yld rfl rfl (yld_lss rfl rfl rfl) ?_
      refine TL.done ?_
      refine NX.seq ?_
      refine WC.cond rfl ?_ ?_
      · intro hc6
        replace hF := bif_t hc6 hF
        refine WC.skip' ?_
        refine NX.seq ?_
        refine WC.seq ?_
        refine WC.block ?_
        refine WC.seq ?_
        refine WC.region ?_
        refine TL.yld rfl rfl (yld_move rfl rfl) ?_
        refine TL.yld rfl rfl (yld_move rfl rfl) ?_
        obtain ⟨x7, hy8, hF⟩ := bsome hF
        refine TL.yld rfl rfl (yld_indexStr rfl Tryd.underlying9 rfl rfl hy8) ?_
        refine TL.yld rfl rfl (yld_geq rfl rfl rfl) ?_
        refine TL.yld rfl rfl (yld_move rfl rfl) ?_
        obtain ⟨c9, hb10, hF⟩ := bsome hF
        refine TL.cut 5 [(0, .string a0_s), (3, .int .i64 i3), (21, .bool c9)] (fun w' => Ext w1 w') ?_ ?_
        · rcases Bool.eq_false_or_eq_true (decide (x7 ≥ 97)) with hg11 | hg11
          ·
            rw [hg11] at hb10; simp only [cond_true, cond_false] at hb10
            replace hF := hb10
            refine TL.gy (j := 4) (t := 16) rfl rfl rfl hg11 rfl (yld_move rfl rfl) ?_
            refine TL.gy (j := 4) (t := 16) rfl rfl rfl hg11 rfl (yld_move rfl rfl) ?_
            obtain ⟨x12, hy13, hF⟩ := bsome hF
            refine TL.gy (j := 4) (t := 16) rfl rfl rfl hg11 rfl (yld_indexStr rfl Tryd.underlying9 rfl rfl hy13) ?_
            refine TL.gy (j := 4) (t := 16) rfl rfl rfl hg11 rfl (yld_leq rfl rfl rfl) ?_
            obtain rfl := Option.some.inj hF
            refine TL.yld rfl rfl (yld_pick_t rfl rfl hg11 rfl) ?_
            exact TL.nil fun a h => ⟨h.weaken ⟨rfl, rfl, rfl, trivial⟩, Ext.refl _⟩
          ·
            rw [hg11] at hb10; simp only [cond_true, cond_false] at hb10
            refine TL.gnu (j := 4) (t := 16) rfl rfl rfl hg11 rfl ?_
            refine TL.gnu (j := 4) (t := 16) rfl rfl rfl hg11 rfl ?_
            refine TL.gnu (j := 4) (t := 16) rfl rfl rfl hg11 rfl ?_
            refine TL.gnu (j := 4) (t := 16) rfl rfl rfl hg11 rfl ?_
            obtain rfl := Option.some.inj hb10
            refine TL.yld rfl rfl (yld_pick_f rfl rfl hg11 rfl) ?_
            exact TL.nil fun a h => ⟨h.weaken ⟨rfl, rfl, rfl, trivial⟩, Ext.refl _⟩
        intro w14 hx15
        have he16 : Ext w w14 := Ext.trans he2 hx15
        have hz17 := (hx15).size
        refine TL.yld rfl rfl (yld_assign rfl rfl) ?_
        refine TL.done ?_
        refine NX.seq ?_
        refine WC.seq ?_
        refine WC.region ?_
        refine TL.yld rfl rfl (yld_move rfl rfl) ?_
        refine TL.yld rfl rfl (yld_move rfl rfl) ?_
        obtain ⟨x18, hy19, hF⟩ := bsome hF
        refine TL.yld rfl rfl (yld_indexStr rfl Tryd.underlying9 rfl rfl hy19) ?_
        refine TL.yld rfl rfl (yld_geq rfl rfl rfl) ?_
        refine TL.yld rfl rfl (yld_move rfl rfl) ?_
        obtain ⟨c20, hb21, hF⟩ := bsome hF
        refine TL.cut 5 [(0, .string a0_s), (3, .int .i64 i3), (4, .bool c9), (31, .bool c20)] (fun w' => Ext w14 w') ?_ ?_
        · rcases Bool.eq_false_or_eq_true (decide (x18 ≥ 48)) with hg22 | hg22
          ·
            rw [hg22] at hb21; simp only [cond_true, cond_false] at hb21
            replace hF := hb21
            refine TL.gy (j := 4) (t := 26) rfl rfl rfl hg22 rfl (yld_move rfl rfl) ?_
            refine TL.gy (j := 4) (t := 26) rfl rfl rfl hg22 rfl (yld_move rfl rfl) ?_
            obtain ⟨x23, hy24, hF⟩ := bsome hF
            refine TL.gy (j := 4) (t := 26) rfl rfl rfl hg22 rfl (yld_indexStr rfl Tryd.underlying9 rfl rfl hy24) ?_
            refine TL.gy (j := 4) (t := 26) rfl rfl rfl hg22 rfl (yld_leq rfl rfl rfl) ?_
            obtain rfl := Option.some.inj hF
            refine TL.yld rfl rfl (yld_pick_t rfl rfl hg22 rfl) ?_
            exact TL.nil fun a h => ⟨h.weaken ⟨rfl, rfl, rfl, rfl, trivial⟩, Ext.refl _⟩
          ·
            rw [hg22] at hb21; simp only [cond_true, cond_false] at hb21
            refine TL.gnu (j := 4) (t := 26) rfl rfl rfl hg22 rfl ?_
            refine TL.gnu (j := 4) (t := 26) rfl rfl rfl hg22 rfl ?_
            refine TL.gnu (j := 4) (t := 26) rfl rfl rfl hg22 rfl ?_
            refine TL.gnu (j := 4) (t := 26) rfl rfl rfl hg22 rfl ?_
            obtain rfl := Option.some.inj hb21
            refine TL.yld rfl rfl (yld_pick_f rfl rfl hg22 rfl) ?_
            exact TL.nil fun a h => ⟨h.weaken ⟨rfl, rfl, rfl, rfl, trivial⟩, Ext.refl _⟩
        intro w25 hx26
        have he27 : Ext w w25 := Ext.trans he16 hx26
        have hz28 := (hx26).size
        refine TL.yld rfl rfl (yld_assign rfl rfl) ?_
        refine TL.done ?_
        refine NX.seq ?_
        refine WC.seq ?_
        refine WC.region ?_
        refine TL.yld rfl rfl (yld_move rfl rfl) ?_
        refine TL.yld rfl rfl (yld_not rfl rfl) ?_
        refine TL.yld rfl rfl (yld_move rfl rfl) ?_
        refine TL.cut 7 [(0, .string a0_s), (3, .int .i64 i3), (41, .bool (((!c9) && ((!((c20 && (decide (i3 > 0)))))))))] (fun w' => Ext w25 w') ?_ ?_
        · rcases Bool.eq_false_or_eq_true (!c9) with hg29 | hg29
          ·
            refine TL.gy (j := 2) (t := 34) rfl rfl rfl hg29 rfl (yld_move rfl rfl) ?_
            refine TL.gy (j := 2) (t := 34) rfl rfl rfl hg29 rfl (yld_move rfl rfl) ?_
            refine TL.cut 3 [(0, .string a0_s), (3, .int .i64 i3), (34, .bool (!c9)), (35, .bool c20), (36, .bool c20), (39, .bool ((c20 && (decide (i3 > 0)))))] (fun w' => Ext w25 w') ?_ ?_
            · rcases Bool.eq_false_or_eq_true c20 with hg30 | hg30
              ·
                refine TL.gy (j := 4) (t := 36) rfl rfl rfl hg30 rfl (yld_move rfl rfl) ?_
                refine TL.gy (j := 4) (t := 36) rfl rfl rfl hg30 rfl (yld_gtr rfl rfl rfl) ?_
                refine TL.gy (j := 2) (t := 34) rfl rfl rfl hg29 rfl (yld_and_t rfl rfl hg30 rfl) ?_
                exact TL.nil fun a h => ⟨h.weaken ⟨rfl, rfl, rfl, rfl, rfl, rfl, trivial⟩, Ext.refl _⟩
              ·
                refine TL.gnu (j := 4) (t := 36) rfl rfl rfl hg30 rfl ?_
                refine TL.gnu (j := 4) (t := 36) rfl rfl rfl hg30 rfl ?_
                refine TL.gy (j := 2) (t := 34) rfl rfl rfl hg29 rfl (yld_and_f (b2 := decide (i3 > 0)) rfl rfl hg30 rfl) ?_
                exact TL.nil fun a h => ⟨h.weaken ⟨rfl, rfl, rfl, rfl, rfl, rfl, trivial⟩, Ext.refl _⟩
            intro w31 hx32
            have he33 : Ext w w31 := Ext.trans he27 hx32
            have hz34 := (hx32).size
            refine TL.gy (j := 2) (t := 34) rfl rfl rfl hg29 rfl (yld_not rfl rfl) ?_
            refine TL.yld rfl rfl (yld_and_t rfl rfl hg29 rfl) ?_
            exact TL.nil fun a h => ⟨h.weaken ⟨rfl, rfl, rfl, trivial⟩, hx32⟩
          ·
            refine TL.gnu (j := 2) (t := 34) rfl rfl rfl hg29 rfl ?_
            refine TL.gnu (j := 2) (t := 34) rfl rfl rfl hg29 rfl ?_
            refine TL.gu (j := 4) (t := 36) rfl rfl rfl rfl ?_
            refine TL.gu (j := 4) (t := 36) rfl rfl rfl rfl ?_
            refine TL.gnu (j := 2) (t := 34) rfl rfl rfl hg29 rfl ?_
            refine TL.gnu (j := 2) (t := 34) rfl rfl rfl hg29 rfl ?_
            refine TL.yld rfl rfl (yld_and_f (b2 := (!((c20 && (decide (i3 > 0)))))) rfl rfl hg29 rfl) ?_
            exact TL.nil fun a h => ⟨h.weaken ⟨rfl, rfl, rfl, trivial⟩, Ext.refl _⟩
        intro w35 hx36
        have he37 : Ext w w35 := Ext.trans he27 hx36
        have hz38 := (hx36).size
        refine TL.done ?_
        refine NX.seq ?_
        refine WC.cond rfl ?_ ?_
        · intro hc39
          replace hF := bif_t hc39 hF
          refine WC.seq ?_
          refine WC.region ?_
          refine TL.yld rfl rfl (yld_assign rfl rfl) ?_
          refine TL.done ?_
          refine NX.seq ?_
          refine WC.ret' ?_
          refine NX.blk_r ?_
          refine NX.then_r ?_
          refine NX.then_r ?_
          refine NX.blk_r ?_
          refine NX.then_r ?_
          obtain rfl := Option.some.inj hF
          exact NX.end (rs := [.tmp 2]) (vs := [.bool false]) rfl ⟨rfl, trivial⟩ ⟨_, rfl, rfl, he37⟩
        · intro hc40
          replace hF := bif_f hc40 hF
          refine WC.skip' ?_
          refine NX.blk_n ?_
          refine NX.seq ?_
          refine WC.region ?_
          refine TL.yld rfl rfl (yld_move rfl rfl) ?_
          refine TL.yld rfl rfl (yld_add rfl rfl rfl) ?_
          refine TL.yld rfl rfl (yld_assign rfl rfl) ?_
          refine TL.done ?_
          refine NX.then_n ?_
          intro a hK; exact ⟨m4, Nat.lt_succ_self m4, (IntKind.wrap IntKind.i64 (i3 + 1)), hK.weaken ⟨rfl, rfl, trivial⟩, he37, (by omega), hF⟩
      · intro hc41
        replace hF := bif_f hc41 hF
        refine WC.exit' ?_
        refine NX.then_e ?_
        refine NX.then_e ?_
        refine NX.blk_hit ?_
        refine NX.seq ?_
        refine WC.seq ?_
        refine WC.region ?_
        refine TL.yld rfl rfl (yld_move rfl rfl) ?_
        refine TL.yld rfl rfl (yld_lens rfl Tryd.underlying9 rfl) ?_
        refine TL.yld rfl rfl (yld_geq rfl rfl rfl) ?_
        refine TL.yld rfl rfl (yld_move rfl rfl) ?_
        refine TL.cut 4 [(49, .bool (((decide ((a0_s.size : Int) ≥ 1)) && (decide ((a0_s.size : Int) ≤ 8)))))] (fun w' => Ext w1 w') ?_ ?_
        · rcases Bool.eq_false_or_eq_true (decide ((a0_s.size : Int) ≥ 1)) with hg42 | hg42
          ·
            refine TL.gy (j := 3) (t := 45) rfl rfl rfl hg42 rfl (yld_move rfl rfl) ?_
            refine TL.gy (j := 3) (t := 45) rfl rfl rfl hg42 rfl (yld_lens rfl Tryd.underlying9 rfl) ?_
            refine TL.gy (j := 3) (t := 45) rfl rfl rfl hg42 rfl (yld_leq rfl rfl rfl) ?_
            refine TL.yld rfl rfl (yld_and_t rfl rfl hg42 rfl) ?_
            exact TL.nil fun a h => ⟨h.weaken ⟨rfl, trivial⟩, Ext.refl _⟩
          ·
            refine TL.gnu (j := 3) (t := 45) rfl rfl rfl hg42 rfl ?_
            refine TL.gnu (j := 3) (t := 45) rfl rfl rfl hg42 rfl ?_
            refine TL.gnu (j := 3) (t := 45) rfl rfl rfl hg42 rfl ?_
            refine TL.yld rfl rfl (yld_and_f (b2 := decide ((a0_s.size : Int) ≤ 8)) rfl rfl hg42 rfl) ?_
            exact TL.nil fun a h => ⟨h.weaken ⟨rfl, trivial⟩, Ext.refl _⟩
        intro w43 hx44
        have he45 : Ext w w43 := Ext.trans he2 hx44
        have hz46 := (hx44).size
        refine TL.yld rfl rfl (yld_assign rfl rfl) ?_
        refine TL.done ?_
        refine NX.seq ?_
        refine WC.ret' ?_
        obtain rfl := Option.some.inj hF
        exact NX.end (rs := [.tmp 2]) (vs := [.bool (((decide ((a0_s.size : Int) ≥ 1)) && (decide ((a0_s.size : Int) ≤ 8))))]) rfl ⟨rfl, trivial⟩ ⟨_, rfl, rfl, he45⟩

-- loop.example/g00861/spec.l14Plain
def F_spec_l14Plain (n : Nat) (a0_c : S_Clock) : Option Bool := (Option.bind (F_spec_l03Name n a0_c.Name) fun r8 => (Option.bind (bif (r8 && (decide (a0_c.Place ≥ 0))) then (Option.bind (F_spec_l01In n a0_c.EarlyLatency 0 100000) fun r19 => (some r19)) else (some false)) fun c19 => (Option.bind (bif c19 then (Option.bind (F_spec_l01In n a0_c.LateLatency a0_c.EarlyLatency 100000) fun r32 => (some r32)) else (some false)) fun c32 => (Option.bind (bif c32 then (Option.bind (F_spec_l01In n a0_c.Uncertainty 0 100000) fun r45 => (some r45)) else (some false)) fun c45 => (some c45)))))
set_option maxHeartbeats 40000000 in
theorem W_spec_l14Plain {n : Nat} {a0_c : S_Clock} {r : Bool} {w : World} (hF : F_spec_l14Plain n a0_c = some r) :
    Calls Tryd.prog 129 [.agg #[.string a0_c.Name, .int .i64 a0_c.Place, .int .i64 a0_c.Period, .int .i64 a0_c.RiseAt, .int .i64 a0_c.FallAt, .int .i64 a0_c.Source, .int .i64 a0_c.Divide, .bool a0_c.Invert, .int .i64 a0_c.EarlyLatency, .int .i64 a0_c.LateLatency, .int .i64 a0_c.Uncertainty]].toArray w (Ret fun u w2 => u = .bool r ∧ Ext w w2) := by
  refine calls_of Tryd.func129 rfl Tryd.ntmps129 ?_
  have he0 : Ext w w := Ext.refl w
  unfold F_spec_l14Plain at hF
  refine WC.seq ?_
  refine WC.region ?_
  refine TL.eff rfl rfl (eff_box rfl rfl) ?_
  rintro _ w2 ⟨b1, rfl, hn3⟩
  obtain ⟨hn3e, hn3s, hn3x, hb4⟩ := hn3
  have hb4 : Box w2 b1 [.string a0_c.Name, .int .i64 a0_c.Place, .int .i64 a0_c.Period, .int .i64 a0_c.RiseAt, .int .i64 a0_c.FallAt, .int .i64 a0_c.Source, .int .i64 a0_c.Divide, .bool a0_c.Invert, .int .i64 a0_c.EarlyLatency, .int .i64 a0_c.LateLatency, .int .i64 a0_c.Uncertainty] 75 := hb4
  have he6 : Ext w w2 := Ext.trans he0 hn3x
  have hz7 := (hn3x).size
  have hlo5 : w.heap.size ≤ b1 := by rw [hn3e]; exact (he0).size
  refine TL.yld rfl rfl (yld_assign rfl rfl) ?_
  refine TL.done ?_
  refine NX.seq ?_
  refine WC.seq ?_
  refine WC.region ?_
  refine TL.yld rfl rfl (yld_fieldAddr rfl fo_75_0 rfl) ?_
  refine TL.yld rfl rfl (yld_load1 0 rfl ag_9 rfl (Box.cells hb4) rfl rfl) ?_
  obtain ⟨r8, hr9, hF⟩ := bsome hF
  refine TL.eff rfl rfl (eff_call rfl gf_115 rfl (W_spec_l03Name hr9)) ?_
  rintro _ w10 ⟨rfl, hx11⟩
  have he12 : Ext w w10 := Ext.trans he6 hx11
  have hb4 := Box.ext hb4 hx11
  have hz13 := (hx11).size
  refine TL.yld rfl rfl (yld_move rfl rfl) ?_
  refine TL.cut 4 [(1, .pointer (some ⟨b1, 0, none⟩)), (10, .bool ((r8 && (decide (a0_c.Place ≥ 0)))))] (fun w' => Ext w10 w') ?_ ?_
  · rcases Bool.eq_false_or_eq_true r8 with hg14 | hg14
    ·
      refine TL.gy (j := 3) (t := 6) rfl rfl rfl hg14 rfl (yld_fieldAddr rfl fo_75_1 rfl) ?_
      refine TL.gy (j := 3) (t := 6) rfl rfl rfl hg14 rfl (yld_load1 1 rfl ag_2 rfl (Box.cells hb4) rfl rfl) ?_
      refine TL.gy (j := 3) (t := 6) rfl rfl rfl hg14 rfl (yld_geq rfl rfl rfl) ?_
      refine TL.yld rfl rfl (yld_and_t rfl rfl hg14 rfl) ?_
      exact TL.nil fun a h => ⟨h.weaken ⟨rfl, rfl, trivial⟩, Ext.refl _⟩
    ·
      refine TL.gnu (j := 3) (t := 6) rfl rfl rfl hg14 rfl ?_
      refine TL.gnu (j := 3) (t := 6) rfl rfl rfl hg14 rfl ?_
      refine TL.gnu (j := 3) (t := 6) rfl rfl rfl hg14 rfl ?_
      refine TL.yld rfl rfl (yld_and_f (b2 := decide (a0_c.Place ≥ 0)) rfl rfl hg14 rfl) ?_
      exact TL.nil fun a h => ⟨h.weaken ⟨rfl, rfl, trivial⟩, Ext.refl _⟩
  intro w15 hx16
  have he17 : Ext w w15 := Ext.trans he12 hx16
  have hb4 := Box.ext hb4 hx16
  have hz18 := (hx16).size
  refine TL.yld rfl rfl (yld_move rfl rfl) ?_
  obtain ⟨c19, hb20, hF⟩ := bsome hF
  refine TL.cut 4 [(1, .pointer (some ⟨b1, 0, none⟩)), (15, .bool c19)] (fun w' => Ext w15 w') ?_ ?_
  · rcases Bool.eq_false_or_eq_true ((r8 && (decide (a0_c.Place ≥ 0)))) with hg21 | hg21
    ·
      rw [hg21] at hb20; simp only [cond_true, cond_false] at hb20
      replace hF := hb20
      refine TL.gy (j := 8) (t := 11) rfl rfl rfl hg21 rfl (yld_fieldAddr rfl fo_75_8 rfl) ?_
      refine TL.gy (j := 8) (t := 11) rfl rfl rfl hg21 rfl (yld_load1 8 rfl ag_2 rfl (Box.cells hb4) rfl rfl) ?_
      obtain ⟨r22, hr23, hF⟩ := bsome hF
      refine TL.ge (j := 8) (t := 11) rfl rfl rfl hg21 rfl (eff_call rfl gf_52 rfl (W_spec_l01In hr23)) ?_
      rintro _ w24 ⟨rfl, hx25⟩
      have he26 : Ext w w24 := Ext.trans he17 hx25
      have hb4 := Box.ext hb4 hx25
      have hz27 := (hx25).size
      obtain rfl := Option.some.inj hF
      refine TL.yld rfl rfl (yld_pick_t rfl rfl hg21 rfl) ?_
      exact TL.nil fun a h => ⟨h.weaken ⟨rfl, rfl, trivial⟩, hx25⟩
    ·
      rw [hg21] at hb20; simp only [cond_true, cond_false] at hb20
      refine TL.gnu (j := 8) (t := 11) rfl rfl rfl hg21 rfl ?_
      refine TL.gnu (j := 8) (t := 11) rfl rfl rfl hg21 rfl ?_
      refine TL.gnu (j := 8) (t := 11) rfl rfl rfl hg21 rfl ?_
      obtain rfl := Option.some.inj hb20
      refine TL.yld rfl rfl (yld_pick_f rfl rfl hg21 rfl) ?_
      exact TL.nil fun a h => ⟨h.weaken ⟨rfl, rfl, trivial⟩, Ext.refl _⟩
  intro w28 hx29
  have he30 : Ext w w28 := Ext.trans he17 hx29
  have hb4 := Box.ext hb4 hx29
  have hz31 := (hx29).size
  refine TL.yld rfl rfl (yld_move rfl rfl) ?_
  obtain ⟨c32, hb33, hF⟩ := bsome hF
  refine TL.cut 6 [(1, .pointer (some ⟨b1, 0, none⟩)), (22, .bool c32)] (fun w' => Ext w28 w') ?_ ?_
  · rcases Bool.eq_false_or_eq_true c19 with hg34 | hg34
    ·
      rw [hg34] at hb33; simp only [cond_true, cond_false] at hb33
      replace hF := hb33
      refine TL.gy (j := 13) (t := 16) rfl rfl rfl hg34 rfl (yld_fieldAddr rfl fo_75_9 rfl) ?_
      refine TL.gy (j := 13) (t := 16) rfl rfl rfl hg34 rfl (yld_load1 9 rfl ag_2 rfl (Box.cells hb4) rfl rfl) ?_
      refine TL.gy (j := 13) (t := 16) rfl rfl rfl hg34 rfl (yld_fieldAddr rfl fo_75_8 rfl) ?_
      refine TL.gy (j := 13) (t := 16) rfl rfl rfl hg34 rfl (yld_load1 8 rfl ag_2 rfl (Box.cells hb4) rfl rfl) ?_
      obtain ⟨r35, hr36, hF⟩ := bsome hF
      refine TL.ge (j := 13) (t := 16) rfl rfl rfl hg34 rfl (eff_call rfl gf_52 rfl (W_spec_l01In hr36)) ?_
      rintro _ w37 ⟨rfl, hx38⟩
      have he39 : Ext w w37 := Ext.trans he30 hx38
      have hb4 := Box.ext hb4 hx38
      have hz40 := (hx38).size
      obtain rfl := Option.some.inj hF
      refine TL.yld rfl rfl (yld_pick_t rfl rfl hg34 rfl) ?_
      exact TL.nil fun a h => ⟨h.weaken ⟨rfl, rfl, trivial⟩, hx38⟩
    ·
      rw [hg34] at hb33; simp only [cond_true, cond_false] at hb33
      refine TL.gnu (j := 13) (t := 16) rfl rfl rfl hg34 rfl ?_
      refine TL.gnu (j := 13) (t := 16) rfl rfl rfl hg34 rfl ?_
      refine TL.gnu (j := 13) (t := 16) rfl rfl rfl hg34 rfl ?_
      refine TL.gnu (j := 13) (t := 16) rfl rfl rfl hg34 rfl ?_
      refine TL.gnu (j := 13) (t := 16) rfl rfl rfl hg34 rfl ?_
      obtain rfl := Option.some.inj hb33
      refine TL.yld rfl rfl (yld_pick_f rfl rfl hg34 rfl) ?_
      exact TL.nil fun a h => ⟨h.weaken ⟨rfl, rfl, trivial⟩, Ext.refl _⟩
  intro w41 hx42
  have he43 : Ext w w41 := Ext.trans he30 hx42
  have hb4 := Box.ext hb4 hx42
  have hz44 := (hx42).size
  refine TL.yld rfl rfl (yld_move rfl rfl) ?_
  obtain ⟨c45, hb46, hF⟩ := bsome hF
  refine TL.cut 4 [(27, .bool c45)] (fun w' => Ext w41 w') ?_ ?_
  · rcases Bool.eq_false_or_eq_true c32 with hg47 | hg47
    ·
      rw [hg47] at hb46; simp only [cond_true, cond_false] at hb46
      replace hF := hb46
      refine TL.gy (j := 20) (t := 23) rfl rfl rfl hg47 rfl (yld_fieldAddr rfl fo_75_10 rfl) ?_
      refine TL.gy (j := 20) (t := 23) rfl rfl rfl hg47 rfl (yld_load1 10 rfl ag_2 rfl (Box.cells hb4) rfl rfl) ?_
      obtain ⟨r48, hr49, hF⟩ := bsome hF
      refine TL.ge (j := 20) (t := 23) rfl rfl rfl hg47 rfl (eff_call rfl gf_52 rfl (W_spec_l01In hr49)) ?_
      rintro _ w50 ⟨rfl, hx51⟩
      have he52 : Ext w w50 := Ext.trans he43 hx51
      have hb4 := Box.ext hb4 hx51
      have hz53 := (hx51).size
      obtain rfl := Option.some.inj hF
      refine TL.yld rfl rfl (yld_pick_t rfl rfl hg47 rfl) ?_
      exact TL.nil fun a h => ⟨h.weaken ⟨rfl, trivial⟩, hx51⟩
    ·
      rw [hg47] at hb46; simp only [cond_true, cond_false] at hb46
      refine TL.gnu (j := 20) (t := 23) rfl rfl rfl hg47 rfl ?_
      refine TL.gnu (j := 20) (t := 23) rfl rfl rfl hg47 rfl ?_
      refine TL.gnu (j := 20) (t := 23) rfl rfl rfl hg47 rfl ?_
      obtain rfl := Option.some.inj hb46
      refine TL.yld rfl rfl (yld_pick_f rfl rfl hg47 rfl) ?_
      exact TL.nil fun a h => ⟨h.weaken ⟨rfl, trivial⟩, Ext.refl _⟩
  intro w54 hx55
  have he56 : Ext w w54 := Ext.trans he43 hx55
  have hb4 := Box.ext hb4 hx55
  have hz57 := (hx55).size
  refine TL.yld rfl rfl (yld_assign rfl rfl) ?_
  refine TL.done ?_
  refine NX.seq ?_
  refine WC.ret' ?_
  obtain rfl := Option.some.inj hF
  exact NX.end (rs := [.tmp 2]) (vs := [.bool c45]) rfl ⟨rfl, trivial⟩ ⟨_, rfl, rfl, he56⟩

-- loop.example/g00861/spec.l14Primary
def F_spec_l14Primary (n : Nat) (a0_c : S_Clock) : Option Bool := (Option.bind (F_spec_l01In n a0_c.Period 2 100000) fun r8 => (Option.bind (bif r8 then (Option.bind (F_spec_l01In n a0_c.RiseAt 0 (IntKind.wrap IntKind.i64 (a0_c.Period - 1))) fun r14 => (some r14)) else (some false)) fun c14 => (Option.bind (bif c14 then (Option.bind (F_spec_l01In n a0_c.FallAt 0 (IntKind.wrap IntKind.i64 (a0_c.Period - 1))) fun r27 => (some r27)) else (some false)) fun c27 => (some ((((((c27 && ((a0_c.RiseAt != a0_c.FallAt)))) && ((a0_c.Divide == 1)))) && (!a0_c.Invert)))))))
set_option maxHeartbeats 40000000 in
theorem W_spec_l14Primary {n : Nat} {a0_c : S_Clock} {r : Bool} {w : World} (hF : F_spec_l14Primary n a0_c = some r) :
    Calls Tryd.prog 130 [.agg #[.string a0_c.Name, .int .i64 a0_c.Place, .int .i64 a0_c.Period, .int .i64 a0_c.RiseAt, .int .i64 a0_c.FallAt, .int .i64 a0_c.Source, .int .i64 a0_c.Divide, .bool a0_c.Invert, .int .i64 a0_c.EarlyLatency, .int .i64 a0_c.LateLatency, .int .i64 a0_c.Uncertainty]].toArray w (Ret fun u w2 => u = .bool r ∧ Ext w w2) := by
  refine calls_of Tryd.func130 rfl Tryd.ntmps130 ?_
  have he0 : Ext w w := Ext.refl w
  unfold F_spec_l14Primary at hF
  refine WC.seq ?_
  refine WC.region ?_
  refine TL.eff rfl rfl (eff_box rfl rfl) ?_
  rintro _ w2 ⟨b1, rfl, hn3⟩
  obtain ⟨hn3e, hn3s, hn3x, hb4⟩ := hn3
  have hb4 : Box w2 b1 [.string a0_c.Name, .int .i64 a0_c.Place, .int .i64 a0_c.Period, .int .i64 a0_c.RiseAt, .int .i64 a0_c.FallAt, .int .i64 a0_c.Source, .int .i64 a0_c.Divide, .bool a0_c.Invert, .int .i64 a0_c.EarlyLatency, .int .i64 a0_c.LateLatency, .int .i64 a0_c.Uncertainty] 75 := hb4
  have he6 : Ext w w2 := Ext.trans he0 hn3x
  have hz7 := (hn3x).size
  have hlo5 : w.heap.size ≤ b1 := by rw [hn3e]; exact (he0).size
  refine TL.yld rfl rfl (yld_assign rfl rfl) ?_
  refine TL.done ?_
  refine NX.seq ?_
  refine WC.seq ?_
  refine WC.region ?_
  refine TL.yld rfl rfl (yld_fieldAddr rfl fo_75_2 rfl) ?_
  refine TL.yld rfl rfl (yld_load1 2 rfl ag_2 rfl (Box.cells hb4) rfl rfl) ?_
  obtain ⟨r8, hr9, hF⟩ := bsome hF
  refine TL.eff rfl rfl (eff_call rfl gf_52 rfl (W_spec_l01In hr9)) ?_
  rintro _ w10 ⟨rfl, hx11⟩
  have he12 : Ext w w10 := Ext.trans he6 hx11
  have hb4 := Box.ext hb4 hx11
  have hz13 := (hx11).size
  refine TL.yld rfl rfl (yld_move rfl rfl) ?_
  obtain ⟨c14, hb15, hF⟩ := bsome hF
  refine TL.cut 7 [(1, .pointer (some ⟨b1, 0, none⟩)), (13, .bool c14)] (fun w' => Ext w10 w') ?_ ?_
  · rcases Bool.eq_false_or_eq_true r8 with hg16 | hg16
    ·
      rw [hg16] at hb15; simp only [cond_true, cond_false] at hb15
      replace hF := hb15
      refine TL.gy (j := 3) (t := 6) rfl rfl rfl hg16 rfl (yld_fieldAddr rfl fo_75_3 rfl) ?_
      refine TL.gy (j := 3) (t := 6) rfl rfl rfl hg16 rfl (yld_load1 3 rfl ag_2 rfl (Box.cells hb4) rfl rfl) ?_
      refine TL.gy (j := 3) (t := 6) rfl rfl rfl hg16 rfl (yld_fieldAddr rfl fo_75_2 rfl) ?_
      refine TL.gy (j := 3) (t := 6) rfl rfl rfl hg16 rfl (yld_load1 2 rfl ag_2 rfl (Box.cells hb4) rfl rfl) ?_
      refine TL.gy (j := 3) (t := 6) rfl rfl rfl hg16 rfl (yld_sub rfl rfl rfl) ?_
      obtain ⟨r17, hr18, hF⟩ := bsome hF
      refine TL.ge (j := 3) (t := 6) rfl rfl rfl hg16 rfl (eff_call rfl gf_52 rfl (W_spec_l01In hr18)) ?_
      rintro _ w19 ⟨rfl, hx20⟩
      have he21 : Ext w w19 := Ext.trans he12 hx20
      have hb4 := Box.ext hb4 hx20
      have hz22 := (hx20).size
      obtain rfl := Option.some.inj hF
      refine TL.yld rfl rfl (yld_pick_t rfl rfl hg16 rfl) ?_
      exact TL.nil fun a h => ⟨h.weaken ⟨rfl, rfl, trivial⟩, hx20⟩
    ·
      rw [hg16] at hb15; simp only [cond_true, cond_false] at hb15
      refine TL.gnu (j := 3) (t := 6) rfl rfl rfl hg16 rfl ?_
      refine TL.gnu (j := 3) (t := 6) rfl rfl rfl hg16 rfl ?_
      refine TL.gnu (j := 3) (t := 6) rfl rfl rfl hg16 rfl ?_
      refine TL.gnu (j := 3) (t := 6) rfl rfl rfl hg16 rfl ?_
      refine TL.gnu (j := 3) (t := 6) rfl rfl rfl hg16 rfl ?_
      refine TL.gnu (j := 3) (t := 6) rfl rfl rfl hg16 rfl ?_
      obtain rfl := Option.some.inj hb15
      refine TL.yld rfl rfl (yld_pick_f rfl rfl hg16 rfl) ?_
      exact TL.nil fun a h => ⟨h.weaken ⟨rfl, rfl, trivial⟩, Ext.refl _⟩
  intro w23 hx24
  have he25 : Ext w w23 := Ext.trans he12 hx24
  have hb4 := Box.ext hb4 hx24
  have hz26 := (hx24).size
  refine TL.yld rfl rfl (yld_move rfl rfl) ?_
  obtain ⟨c27, hb28, hF⟩ := bsome hF
  refine TL.cut 7 [(1, .pointer (some ⟨b1, 0, none⟩)), (21, .bool c27)] (fun w' => Ext w23 w') ?_ ?_
  · rcases Bool.eq_false_or_eq_true c14 with hg29 | hg29
    ·
      rw [hg29] at hb28; simp only [cond_true, cond_false] at hb28
      replace hF := hb28
      refine TL.gy (j := 11) (t := 14) rfl rfl rfl hg29 rfl (yld_fieldAddr rfl fo_75_4 rfl) ?_
      refine TL.gy (j := 11) (t := 14) rfl rfl rfl hg29 rfl (yld_load1 4 rfl ag_2 rfl (Box.cells hb4) rfl rfl) ?_
      refine TL.gy (j := 11) (t := 14) rfl rfl rfl hg29 rfl (yld_fieldAddr rfl fo_75_2 rfl) ?_
      refine TL.gy (j := 11) (t := 14) rfl rfl rfl hg29 rfl (yld_load1 2 rfl ag_2 rfl (Box.cells hb4) rfl rfl) ?_
      refine TL.gy (j := 11) (t := 14) rfl rfl rfl hg29 rfl (yld_sub rfl rfl rfl) ?_
      obtain ⟨r30, hr31, hF⟩ := bsome hF
      refine TL.ge (j := 11) (t := 14) rfl rfl rfl hg29 rfl (eff_call rfl gf_52 rfl (W_spec_l01In hr31)) ?_
      rintro _ w32 ⟨rfl, hx33⟩
      have he34 : Ext w w32 := Ext.trans he25 hx33
      have hb4 := Box.ext hb4 hx33
      have hz35 := (hx33).size
      obtain rfl := Option.some.inj hF
      refine TL.yld rfl rfl (yld_pick_t rfl rfl hg29 rfl) ?_
      exact TL.nil fun a h => ⟨h.weaken ⟨rfl, rfl, trivial⟩, hx33⟩
    ·
      rw [hg29] at hb28; simp only [cond_true, cond_false] at hb28
      refine TL.gnu (j := 11) (t := 14) rfl rfl rfl hg29 rfl ?_
      refine TL.gnu (j := 11) (t := 14) rfl rfl rfl hg29 rfl ?_
      refine TL.gnu (j := 11) (t := 14) rfl rfl rfl hg29 rfl ?_
      refine TL.gnu (j := 11) (t := 14) rfl rfl rfl hg29 rfl ?_
      refine TL.gnu (j := 11) (t := 14) rfl rfl rfl hg29 rfl ?_
      refine TL.gnu (j := 11) (t := 14) rfl rfl rfl hg29 rfl ?_
      obtain rfl := Option.some.inj hb28
      refine TL.yld rfl rfl (yld_pick_f rfl rfl hg29 rfl) ?_
      exact TL.nil fun a h => ⟨h.weaken ⟨rfl, rfl, trivial⟩, Ext.refl _⟩
  intro w36 hx37
  have he38 : Ext w w36 := Ext.trans he25 hx37
  have hb4 := Box.ext hb4 hx37
  have hz39 := (hx37).size
  refine TL.yld rfl rfl (yld_move rfl rfl) ?_
  refine TL.cut 6 [(1, .pointer (some ⟨b1, 0, none⟩)), (28, .bool ((c27 && ((a0_c.RiseAt != a0_c.FallAt)))))] (fun w' => Ext w36 w') ?_ ?_
  · rcases Bool.eq_false_or_eq_true c27 with hg40 | hg40
    ·
      refine TL.gy (j := 19) (t := 22) rfl rfl rfl hg40 rfl (yld_fieldAddr rfl fo_75_3 rfl) ?_
      refine TL.gy (j := 19) (t := 22) rfl rfl rfl hg40 rfl (yld_load1 3 rfl ag_2 rfl (Box.cells hb4) rfl rfl) ?_
      refine TL.gy (j := 19) (t := 22) rfl rfl rfl hg40 rfl (yld_fieldAddr rfl fo_75_4 rfl) ?_
      refine TL.gy (j := 19) (t := 22) rfl rfl rfl hg40 rfl (yld_load1 4 rfl ag_2 rfl (Box.cells hb4) rfl rfl) ?_
      refine TL.gy (j := 19) (t := 22) rfl rfl rfl hg40 rfl (yld_neq rfl rfl rfl) ?_
      refine TL.yld rfl rfl (yld_and_t rfl rfl hg40 rfl) ?_
      exact TL.nil fun a h => ⟨h.weaken ⟨rfl, rfl, trivial⟩, Ext.refl _⟩
    ·
      refine TL.gnu (j := 19) (t := 22) rfl rfl rfl hg40 rfl ?_
      refine TL.gnu (j := 19) (t := 22) rfl rfl rfl hg40 rfl ?_
      refine TL.gnu (j := 19) (t := 22) rfl rfl rfl hg40 rfl ?_
      refine TL.gnu (j := 19) (t := 22) rfl rfl rfl hg40 rfl ?_
      refine TL.gnu (j := 19) (t := 22) rfl rfl rfl hg40 rfl ?_
      refine TL.yld rfl rfl (yld_and_f (b2 := (a0_c.RiseAt != a0_c.FallAt)) rfl rfl hg40 rfl) ?_
      exact TL.nil fun a h => ⟨h.weaken ⟨rfl, rfl, trivial⟩, Ext.refl _⟩
  intro w41 hx42
  have he43 : Ext w w41 := Ext.trans he38 hx42
  have hb4 := Box.ext hb4 hx42
  have hz44 := (hx42).size
  refine TL.yld rfl rfl (yld_move rfl rfl) ?_
  refine TL.cut 4 [(1, .pointer (some ⟨b1, 0, none⟩)), (33, .bool ((((c27 && ((a0_c.RiseAt != a0_c.FallAt)))) && ((a0_c.Divide == 1)))))] (fun w' => Ext w41 w') ?_ ?_
  · rcases Bool.eq_false_or_eq_true ((c27 && ((a0_c.RiseAt != a0_c.FallAt)))) with hg45 | hg45
    ·
      refine TL.gy (j := 26) (t := 29) rfl rfl rfl hg45 rfl (yld_fieldAddr rfl fo_75_6 rfl) ?_
      refine TL.gy (j := 26) (t := 29) rfl rfl rfl hg45 rfl (yld_load1 6 rfl ag_2 rfl (Box.cells hb4) rfl rfl) ?_
      refine TL.gy (j := 26) (t := 29) rfl rfl rfl hg45 rfl (yld_eql rfl rfl rfl) ?_
      refine TL.yld rfl rfl (yld_and_t rfl rfl hg45 rfl) ?_
      exact TL.nil fun a h => ⟨h.weaken ⟨rfl, rfl, trivial⟩, Ext.refl _⟩
    ·
      refine TL.gnu (j := 26) (t := 29) rfl rfl rfl hg45 rfl ?_
      refine TL.gnu (j := 26) (t := 29) rfl rfl rfl hg45 rfl ?_
      refine TL.gnu (j := 26) (t := 29) rfl rfl rfl hg45 rfl ?_
      refine TL.yld rfl rfl (yld_and_f (b2 := (a0_c.Divide == 1)) rfl rfl hg45 rfl) ?_
      exact TL.nil fun a h => ⟨h.weaken ⟨rfl, rfl, trivial⟩, Ext.refl _⟩
  intro w46 hx47
  have he48 : Ext w w46 := Ext.trans he43 hx47
  have hb4 := Box.ext hb4 hx47
  have hz49 := (hx47).size
  refine TL.yld rfl rfl (yld_move rfl rfl) ?_
  refine TL.cut 4 [(38, .bool ((((((c27 && ((a0_c.RiseAt != a0_c.FallAt)))) && ((a0_c.Divide == 1)))) && (!a0_c.Invert))))] (fun w' => Ext w46 w') ?_ ?_
  · rcases Bool.eq_false_or_eq_true ((((c27 && ((a0_c.RiseAt != a0_c.FallAt)))) && ((a0_c.Divide == 1)))) with hg50 | hg50
    ·
      refine TL.gy (j := 31) (t := 34) rfl rfl rfl hg50 rfl (yld_fieldAddr rfl fo_75_7 rfl) ?_
      refine TL.gy (j := 31) (t := 34) rfl rfl rfl hg50 rfl (yld_load1 7 rfl ag_4 rfl (Box.cells hb4) rfl rfl) ?_
      refine TL.gy (j := 31) (t := 34) rfl rfl rfl hg50 rfl (yld_not rfl rfl) ?_
      refine TL.yld rfl rfl (yld_and_t rfl rfl hg50 rfl) ?_
      exact TL.nil fun a h => ⟨h.weaken ⟨rfl, trivial⟩, Ext.refl _⟩
    ·
      refine TL.gnu (j := 31) (t := 34) rfl rfl rfl hg50 rfl ?_
      refine TL.gnu (j := 31) (t := 34) rfl rfl rfl hg50 rfl ?_
      refine TL.gnu (j := 31) (t := 34) rfl rfl rfl hg50 rfl ?_
      refine TL.yld rfl rfl (yld_and_f (b2 := (!a0_c.Invert)) rfl rfl hg50 rfl) ?_
      exact TL.nil fun a h => ⟨h.weaken ⟨rfl, trivial⟩, Ext.refl _⟩
  intro w51 hx52
  have he53 : Ext w w51 := Ext.trans he48 hx52
  have hb4 := Box.ext hb4 hx52
  have hz54 := (hx52).size
  refine TL.yld rfl rfl (yld_assign rfl rfl) ?_
  refine TL.done ?_
  refine NX.seq ?_
  refine WC.ret' ?_
  obtain rfl := Option.some.inj hF
  exact NX.end (rs := [.tmp 2]) (vs := [.bool ((((((c27 && ((a0_c.RiseAt != a0_c.FallAt)))) && ((a0_c.Divide == 1)))) && (!a0_c.Invert)))]) rfl ⟨rfl, trivial⟩ ⟨_, rfl, rfl, he53⟩

-- loop.example/g00861/spec.IsClocks
def F_spec_IsClocks_L2 (a0_list : List S_Clock) (i5 : Int) (x12 : S_Clock) (k2 : Int → Option Bool) : Nat → Int → Option Bool
  | 0 => fun _ => none
  | m + 1 => fun i42 => (bif decide (i42 < i5) then (Option.bind (getI a0_list i42) fun x45 => (bif (x45.Name.toList == x12.Name.toList) then (some false) else (F_spec_IsClocks_L2 a0_list i5 x12 k2 m (IntKind.wrap IntKind.i64 (i42 + 1))))) else (k2 i42))
theorem F_spec_IsClocks_L2_z (a0_list : List S_Clock) (i5 : Int) (x12 : S_Clock) (k2 : Int → Option Bool) (i42 : Int) : F_spec_IsClocks_L2 a0_list i5 x12 k2 0 i42 = none := rfl
theorem F_spec_IsClocks_L2_s (m : Nat) (a0_list : List S_Clock) (i5 : Int) (x12 : S_Clock) (k2 : Int → Option Bool) (i42 : Int) : F_spec_IsClocks_L2 a0_list i5 x12 k2 (m + 1) i42 = (bif decide (i42 < i5) then (Option.bind (getI a0_list i42) fun x45 => (bif (x45.Name.toList == x12.Name.toList) then (some false) else (F_spec_IsClocks_L2 a0_list i5 x12 k2 m (IntKind.wrap IntKind.i64 (i42 + 1))))) else (k2 i42)) := rfl

def F_spec_IsClocks_L1 (n : Nat) (a0_list : List S_Clock) (k0 : Int → Option Bool) : Nat → Int → Option Bool
  | 0 => fun _ => none
  | m + 1 => fun i5 => (bif ((decide (i5 < (a0_list.length : Int))) && (decide ((a0_list.length : Int) ≤ 6))) then (Option.bind (getI a0_list i5) fun x12 => (Option.bind (F_spec_l14Plain n x12) fun r32 => (bif (!r32) then (some false) else (F_spec_IsClocks_L2 a0_list i5 x12 (fun i42 => (bif (x12.Source == (-1)) then (Option.bind (F_spec_l14Primary n x12) fun r45 => (bif (!r45) then (some false) else (F_spec_IsClocks_L1 n a0_list k0 m (IntKind.wrap IntKind.i64 (i5 + 1))))) else (Option.bind (F_spec_l01In n x12.Source 0 (IntKind.wrap IntKind.i64 (i5 - 1))) fun r54 => (Option.bind (bif (!r54) then (some true) else (Option.bind (F_spec_l01In n x12.Divide 1 8) fun r60 => (some (!r60)))) fun c60 => (Option.bind (bif (((((c60 || ((x12.Period != 0)))) || ((x12.RiseAt != 0)))) || ((x12.FallAt != 0))) then (some true) else (Option.bind (F_spec_l14Of n a0_list i5) fun r88 => (some (decide (r88.period_ > 100000))))) fun c88 => (bif c88 then (some false) else (F_spec_IsClocks_L1 n a0_list k0 m (IntKind.wrap IntKind.i64 (i5 + 1))))))))) n 0)))) else (k0 i5))
theorem F_spec_IsClocks_L1_z (n : Nat) (a0_list : List S_Clock) (k0 : Int → Option Bool) (i5 : Int) : F_spec_IsClocks_L1 n a0_list k0 0 i5 = none := rfl
theorem F_spec_IsClocks_L1_s (m : Nat) (n : Nat) (a0_list : List S_Clock) (k0 : Int → Option Bool) (i5 : Int) : F_spec_IsClocks_L1 n a0_list k0 (m + 1) i5 = (bif ((decide (i5 < (a0_list.length : Int))) && (decide ((a0_list.length : Int) ≤ 6))) then (Option.bind (getI a0_list i5) fun x12 => (Option.bind (F_spec_l14Plain n x12) fun r32 => (bif (!r32) then (some false) else (F_spec_IsClocks_L2 a0_list i5 x12 (fun i42 => (bif (x12.Source == (-1)) then (Option.bind (F_spec_l14Primary n x12) fun r45 => (bif (!r45) then (some false) else (F_spec_IsClocks_L1 n a0_list k0 m (IntKind.wrap IntKind.i64 (i5 + 1))))) else (Option.bind (F_spec_l01In n x12.Source 0 (IntKind.wrap IntKind.i64 (i5 - 1))) fun r54 => (Option.bind (bif (!r54) then (some true) else (Option.bind (F_spec_l01In n x12.Divide 1 8) fun r60 => (some (!r60)))) fun c60 => (Option.bind (bif (((((c60 || ((x12.Period != 0)))) || ((x12.RiseAt != 0)))) || ((x12.FallAt != 0))) then (some true) else (Option.bind (F_spec_l14Of n a0_list i5) fun r88 => (some (decide (r88.period_ > 100000))))) fun c88 => (bif c88 then (some false) else (F_spec_IsClocks_L1 n a0_list k0 m (IntKind.wrap IntKind.i64 (i5 + 1))))))))) n 0)))) else (k0 i5)) := rfl

def F_spec_IsClocks (n : Nat) (a0_list : List S_Clock) : Option Bool := (F_spec_IsClocks_L1 n a0_list (fun i5 => (some (decide ((a0_list.length : Int) ≤ 6)))) n 0)
set_option maxHeartbeats 40000000 in
theorem W_spec_IsClocks {n : Nat} {a0_list : List S_Clock} {r : Bool} {w : World} {v1 : Value} (hF : F_spec_IsClocks n a0_list = some r) (ha2 : slRep C_Clock w (Iv 0 w.heap.size) a0_list v1) :
    Calls Tryd.prog 93 [v1].toArray w (Ret fun u w2 => u = .bool r ∧ Ext w w2) := by
  refine calls_of Tryd.func93 rfl Tryd.ntmps93 ?_
  have he0 : Ext w w := Ext.refl w
  unfold F_spec_IsClocks at hF
  refine WC.seq ?_
  refine WC.region ?_
  refine TL.yld rfl rfl (yld_assign rfl rfl) ?_
  refine TL.done ?_
  refine NX.seq ?_
  refine WC.seq ?_
  refine WC.seq ?_
  refine WC.region ?_
  refine TL.yld rfl rfl (yld_assign rfl rfl) ?_
  refine TL.done ?_
  refine NX.seq ?_
  refine WC.block ?_
  refine WC.loop (fun m6 a wl => ∃ (i5 : Int), Kn 80 [(0, v1), (3, .int .i64 i5)] a ∧ Ext w wl ∧ w.heap.size ≤ wl.heap.size ∧ F_spec_IsClocks_L1 n a0_list (fun i5 => (some (decide ((a0_list.length : Int) ≤ 6)))) m6 i5 = some r) n ?_ ?_
  · intro a hK; exact ⟨0, hK.weaken ⟨rfl, rfl, trivial⟩, he0, Nat.le_refl _, hF⟩
  · rintro m6 a w3 ⟨i5, hK, he4, hz7, hF⟩
    revert hK; revert a; refine (?_ : WC _ _ _ _ _ _)
    cases m6 with
    | zero => rw [F_spec_IsClocks_L1_z] at hF; cases hF
    | succ m6 =>
      rw [F_spec_IsClocks_L1_s] at hF
      refine WC.seq ?_
      refine WC.seq ?_
      refine WC.region ?_
      refine TL.yld rfl rfl (yld_move rfl rfl) ?_
      refine TL.yld rfl rfl (yld_move rfl rfl) ?_
      refine TL.yld rfl rfl (ye_len (c := C_Clock) rfl Tryd.underlying26 rfl (slRep.old ha2 he4 (Nat.le_refl _))) ?_
      refine TL.yld rfl rfl (yld_lss rfl rfl rfl) ?_
      refine TL.yld rfl rfl (yld_move rfl rfl) ?_
      refine TL.cut 4 [(0, v1), (3, .int .i64 i5), (14, .bool (((decide (i5 < (a0_list.length : Int))) && (decide ((a0_list.length : Int) ≤ 6)))))] (fun w' => Ext w3 w') ?_ ?_
      · rcases Bool.eq_false_or_eq_true (decide (i5 < (a0_list.length : Int))) with hg8 | hg8
        ·
          refine TL.gy (j := 4) (t := 10) rfl rfl rfl hg8 rfl (yld_move rfl rfl) ?_
          refine TL.gy (j := 4) (t := 10) rfl rfl rfl hg8 rfl (ye_len (c := C_Clock) rfl Tryd.underlying26 rfl (slRep.old ha2 he4 (Nat.le_refl _))) ?_
          refine TL.gy (j := 4) (t := 10) rfl rfl rfl hg8 rfl (yld_leq rfl rfl rfl) ?_
          refine TL.yld rfl rfl (yld_and_t rfl rfl hg8 rfl) ?_
          exact TL.nil fun a h => ⟨h.weaken ⟨rfl, rfl, rfl, trivial⟩, Ext.refl _⟩
        ·
          refine TL.gnu (j := 4) (t := 10) rfl rfl rfl hg8 rfl ?_
          refine TL.gnu (j := 4) (t := 10) rfl rfl rfl hg8 rfl ?_
          refine TL.gnu (j := 4) (t := 10) rfl rfl rfl hg8 rfl ?_
          refine TL.yld rfl rfl (yld_and_f (b2 := decide ((a0_list.length : Int) ≤ 6)) rfl rfl hg8 rfl) ?_
          exact TL.nil fun a h => ⟨h.weaken ⟨rfl, rfl, rfl, trivial⟩, Ext.refl _⟩
      intro w9 hx10
      have he11 : Ext w w9 := Ext.trans he4 hx10
      have hz12 := (hx10).size
      refine TL.done ?_
      refine NX.seq ?_
      refine WC.cond rfl ?_ ?_
      · intro hc13
        replace hF := bif_t hc13 hF
        refine WC.skip' ?_
        refine NX.seq ?_
        refine WC.seq ?_
        refine WC.block ?_
        refine WC.seq ?_
        refine WC.region ?_
        refine TL.yld rfl rfl (yld_move rfl rfl) ?_
        refine TL.yld rfl rfl (yld_move rfl rfl) ?_
        obtain ⟨x14, hy15, hF⟩ := bsome hF
        refine TL.ye rfl rfl (ye_index (c := C_Clock) rfl Tryd.underlying26 cn_75 rfl rfl (slRep.old ha2 he11 (Nat.le_refl _)) hy15) ?_
        rintro _ ⟨b16, o17, us18, rfl, hib21, hr19, hcl20⟩
        have hib21 : 0 ≤ b16 ∧ b16 < w.heap.size := ⟨hib21.1, by have := hib21.2; omega⟩
        obtain rfl := C_Clock_open hr19
        refine TL.yld rfl rfl (yld_loadN (us := [.string x14.Name, .int .i64 x14.Place, .int .i64 x14.Period, .int .i64 x14.RiseAt, .int .i64 x14.FallAt, .int .i64 x14.Source, .int .i64 x14.Divide, .bool x14.Invert, .int .i64 x14.EarlyLatency, .int .i64 x14.LateLatency, .int .i64 x14.Uncertainty]) rfl ag_75 rfl hcl20 cn_75) ?_
        refine TL.eff rfl rfl (eff_alloc rfl zn_75) ?_
        rintro _ w23 ⟨b22, rfl, hn24⟩
        obtain ⟨hn24e, hn24s, hn24x, hb25⟩ := hn24
        have hb25 : Box w23 b22 [.string ByteArray.empty, .int .i64 0, .int .i64 0, .int .i64 0, .int .i64 0, .int .i64 0, .int .i64 0, .bool false, .int .i64 0, .int .i64 0, .int .i64 0] 75 := hb25
        have he27 : Ext w w23 := Ext.trans he11 hn24x
        have hz28 := (hn24x).size
        have hlo26 : w.heap.size ≤ b22 := by rw [hn24e]; exact (he11).size
        refine TL.eff rfl rfl (eff_store rfl rfl rfl hb25 cn_75 rfl rfl) ?_
        rintro _ w29 ⟨hu30, hb31⟩
        have he32 : Ext w w29 := Below.trans he27 (Upd.below hu30 (by omega))
        have hz33 := (hu30).size
        have hb25 : Box w29 b22 [.string x14.Name, .int .i64 x14.Place, .int .i64 x14.Period, .int .i64 x14.RiseAt, .int .i64 x14.FallAt, .int .i64 x14.Source, .int .i64 x14.Divide, .bool x14.Invert, .int .i64 x14.EarlyLatency, .int .i64 x14.LateLatency, .int .i64 x14.Uncertainty] 75 := hb31
        refine TL.done ?_
        refine NX.seq ?_
        refine WC.seq ?_
        refine WC.seq ?_
        refine WC.region ?_
        refine TL.yld rfl rfl (yld_loadN (us := [.string x14.Name, .int .i64 x14.Place, .int .i64 x14.Period, .int .i64 x14.RiseAt, .int .i64 x14.FallAt, .int .i64 x14.Source, .int .i64 x14.Divide, .bool x14.Invert, .int .i64 x14.EarlyLatency, .int .i64 x14.LateLatency, .int .i64 x14.Uncertainty]) rfl ag_75 rfl (Box.cells hb25) cn_75) ?_
        obtain ⟨r34, hr35, hF⟩ := bsome hF
        refine TL.eff rfl rfl (eff_call rfl gf_129 rfl (W_spec_l14Plain hr35)) ?_
        rintro _ w36 ⟨rfl, hx37⟩
        have he38 : Ext w w36 := Ext.trans he32 hx37
        have hb25 := Box.ext hb25 hx37
        have hz39 := (hx37).size
        refine TL.yld rfl rfl (yld_not rfl rfl) ?_
        refine TL.done ?_
        refine NX.seq ?_
        refine WC.cond rfl ?_ ?_
        · intro hc40
          replace hF := bif_t hc40 hF
          refine WC.seq ?_
          refine WC.region ?_
          refine TL.yld rfl rfl (yld_assign rfl rfl) ?_
          refine TL.done ?_
          refine NX.seq ?_
          refine WC.ret' ?_
          refine NX.then_r ?_
          refine NX.blk_r ?_
          refine NX.then_r ?_
          refine NX.then_r ?_
          refine NX.blk_r ?_
          refine NX.then_r ?_
          obtain rfl := Option.some.inj hF
          exact NX.end (rs := [.tmp 2]) (vs := [.bool false]) rfl ⟨rfl, trivial⟩ ⟨_, rfl, rfl, he38⟩
        · intro hc41
          replace hF := bif_f hc41 hF
          refine WC.skip' ?_
          refine NX.seq ?_
          refine WC.seq ?_
          refine WC.seq ?_
          refine WC.region ?_
          refine TL.yld rfl rfl (yld_assign rfl rfl) ?_
          refine TL.done ?_
          refine NX.seq ?_
          refine WC.block ?_
          refine WC.loop (fun m46 a wl => ∃ (i44 : Int), Kn 80 [(0, v1), (3, .int .i64 i5), (4, .pointer (some ⟨b22, 0, none⟩)), (5, .int .i64 i44)] a ∧ Ext w wl ∧ w36.heap.size ≤ wl.heap.size ∧ Box wl b22 [.string x14.Name, .int .i64 x14.Place, .int .i64 x14.Period, .int .i64 x14.RiseAt, .int .i64 x14.FallAt, .int .i64 x14.Source, .int .i64 x14.Divide, .bool x14.Invert, .int .i64 x14.EarlyLatency, .int .i64 x14.LateLatency, .int .i64 x14.Uncertainty] 75 ∧ F_spec_IsClocks_L2 a0_list i5 x14 (fun i44 => (bif (x14.Source == (-1)) then (Option.bind (F_spec_l14Primary n x14) fun r47 => (bif (!r47) then (some false) else (F_spec_IsClocks_L1 n a0_list (fun i5 => (some (decide ((a0_list.length : Int) ≤ 6)))) m6 (IntKind.wrap IntKind.i64 (i5 + 1))))) else (Option.bind (F_spec_l01In n x14.Source 0 (IntKind.wrap IntKind.i64 (i5 - 1))) fun r56 => (Option.bind (bif (!r56) then (some true) else (Option.bind (F_spec_l01In n x14.Divide 1 8) fun r62 => (some (!r62)))) fun c62 => (Option.bind (bif (((((c62 || ((x14.Period != 0)))) || ((x14.RiseAt != 0)))) || ((x14.FallAt != 0))) then (some true) else (Option.bind (F_spec_l14Of n a0_list i5) fun r90 => (some (decide (r90.period_ > 100000))))) fun c90 => (bif c90 then (some false) else (F_spec_IsClocks_L1 n a0_list (fun i5 => (some (decide ((a0_list.length : Int) ≤ 6)))) m6 (IntKind.wrap IntKind.i64 (i5 + 1))))))))) m46 i44 = some r) n ?_ ?_
          · intro a hK; exact ⟨0, hK.weaken ⟨rfl, rfl, rfl, rfl, trivial⟩, he38, Nat.le_refl _, hb25, hF⟩
          · rintro m46 a w42 ⟨i44, hK, he43, hz47, hb45, hF⟩
            revert hK; revert a; refine (?_ : WC _ _ _ _ _ _)
            cases m46 with
            | zero => rw [F_spec_IsClocks_L2_z] at hF; cases hF
            | succ m46 =>
              rw [F_spec_IsClocks_L2_s] at hF
              refine WC.seq ?_
              refine WC.seq ?_
              refine WC.region ?_
              refine TL.yld rfl rfl (yld_move rfl rfl) ?_
              refine TL.yld rfl rfl (yld_move rfl rfl) ?_
              refine TL.yld rfl rfl (yld_lss rfl rfl rfl) ?_
              refine TL.done ?_
              refine NX.seq ?_
              refine WC.cond rfl ?_ ?_
              · intro hc48
                replace hF := bif_t hc48 hF
                refine WC.skip' ?_
                refine NX.seq ?_
                refine WC.seq ?_
                refine WC.block ?_
                refine WC.seq ?_
                refine WC.quiet Tryd.hm (by kernel_rfl) ?_
                refine QL.yld rfl rfl (Yld.qui (yld_move rfl rfl)) ?_
                refine QL.yld rfl rfl (Yld.qui (yld_move rfl rfl)) ?_
                obtain ⟨x49, hy50, hF⟩ := bsome hF
                refine QL.ye rfl rfl (ye_index (c := C_Clock) rfl Tryd.underlying26 cn_75 rfl rfl (slRep.old ha2 he43 (Nat.le_refl _)) hy50) ?_
                rintro _ ⟨b51, o52, us53, rfl, hib56, hr54, hcl55⟩
                have hib56 : 0 ≤ b51 ∧ b51 < w.heap.size := ⟨hib56.1, by have := hib56.2; omega⟩
                obtain rfl := C_Clock_open hr54
                refine QL.yld rfl rfl (Yld.qui (yld_fieldAddr rfl fo_75_0 rfl)) ?_
                refine QL.yld rfl rfl (Yld.qui (yld_load1 0 rfl ag_9 rfl hcl55 rfl rfl)) ?_
                refine QL.yld rfl rfl (Yld.qui (yld_fieldAddr rfl fo_75_0 rfl)) ?_
                refine QL.yld rfl rfl (Yld.qui (yld_load1 0 rfl ag_9 rfl (Box.cells hb45) rfl rfl)) ?_
                refine QL.yld rfl rfl (Yld.qui (yld_eqs rfl rfl rfl)) ?_
                refine QL.done fun w57 hx58 => ?_
                have he59 : Ext w w57 := Ext.trans he43 hx58
                have hb45 := Box.ext hb45 hx58
                have hz60 := (hx58).size
                refine NX.seq ?_
                refine WC.cond rfl ?_ ?_
                · intro hc61
                  replace hF := bif_t hc61 hF
                  refine WC.seq ?_
                  refine WC.region ?_
                  refine TL.yld rfl rfl (yld_assign rfl rfl) ?_
                  refine TL.done ?_
                  refine NX.seq ?_
                  refine WC.ret' ?_
                  refine NX.blk_r ?_
                  refine NX.then_r ?_
                  refine NX.then_r ?_
                  refine NX.blk_r ?_
                  refine NX.then_r ?_
                  refine NX.blk_r ?_
                  refine NX.then_r ?_
                  refine NX.then_r ?_
                  refine NX.blk_r ?_
                  refine NX.then_r ?_
                  obtain rfl := Option.some.inj hF
                  exact NX.end (rs := [.tmp 2]) (vs := [.bool false]) rfl ⟨rfl, trivial⟩ ⟨_, rfl, rfl, he59⟩
                · intro hc62
                  replace hF := bif_f hc62 hF
                  refine WC.skip' ?_
                  refine NX.blk_n ?_
                  refine NX.seq ?_
                  refine WC.region ?_
                  refine TL.yld rfl rfl (yld_move rfl rfl) ?_
                  refine TL.yld rfl rfl (yld_add rfl rfl rfl) ?_
                  refine TL.yld rfl rfl (yld_assign rfl rfl) ?_
                  refine TL.done ?_
                  refine NX.then_n ?_
                  intro a hK; exact ⟨m46, Nat.lt_succ_self m46, (IntKind.wrap IntKind.i64 (i44 + 1)), hK.weaken ⟨rfl, rfl, rfl, rfl, trivial⟩, he59, (by omega), hb45, hF⟩
              · intro hc63
                replace hF := bif_f hc63 hF
                refine WC.exit' ?_
                refine NX.then_e ?_
                refine NX.then_e ?_
                refine NX.blk_hit ?_
                refine NX.seq ?_
                refine WC.seq ?_
                refine WC.seq ?_
                refine WC.region ?_
                refine TL.yld rfl rfl (yld_fieldAddr rfl fo_75_5 rfl) ?_
                refine TL.yld rfl rfl (yld_load1 5 rfl ag_2 rfl (Box.cells hb45) rfl rfl) ?_
                refine TL.yld rfl rfl (yld_eql rfl rfl rfl) ?_
                refine TL.done ?_
                refine NX.seq ?_
                refine WC.cond rfl ?_ ?_
                · intro hc64
                  replace hF := bif_t hc64 hF
                  refine WC.seq ?_
                  refine WC.seq ?_
                  refine WC.region ?_
                  refine TL.yld rfl rfl (yld_loadN (us := [.string x14.Name, .int .i64 x14.Place, .int .i64 x14.Period, .int .i64 x14.RiseAt, .int .i64 x14.FallAt, .int .i64 x14.Source, .int .i64 x14.Divide, .bool x14.Invert, .int .i64 x14.EarlyLatency, .int .i64 x14.LateLatency, .int .i64 x14.Uncertainty]) rfl ag_75 rfl (Box.cells hb45) cn_75) ?_
                  obtain ⟨r65, hr66, hF⟩ := bsome hF
                  refine TL.eff rfl rfl (eff_call rfl gf_130 rfl (W_spec_l14Primary hr66)) ?_
                  rintro _ w67 ⟨rfl, hx68⟩
                  have he69 : Ext w w67 := Ext.trans he43 hx68
                  have hb45 := Box.ext hb45 hx68
                  have hz70 := (hx68).size
                  refine TL.yld rfl rfl (yld_not rfl rfl) ?_
                  refine TL.done ?_
                  refine NX.seq ?_
                  refine WC.cond rfl ?_ ?_
                  · intro hc71
                    replace hF := bif_t hc71 hF
                    refine WC.seq ?_
                    refine WC.region ?_
                    refine TL.yld rfl rfl (yld_assign rfl rfl) ?_
                    refine TL.done ?_
                    refine NX.seq ?_
                    refine WC.ret' ?_
                    refine NX.then_r ?_
                    refine NX.then_r ?_
                    refine NX.blk_r ?_
                    refine NX.then_r ?_
                    refine NX.then_r ?_
                    refine NX.blk_r ?_
                    refine NX.then_r ?_
                    obtain rfl := Option.some.inj hF
                    exact NX.end (rs := [.tmp 2]) (vs := [.bool false]) rfl ⟨rfl, trivial⟩ ⟨_, rfl, rfl, he69⟩
                  · intro hc72
                    replace hF := bif_f hc72 hF
                    refine WC.skip' ?_
                    refine NX.seq ?_
                    refine WC.exit' ?_
                    refine NX.then_e ?_
                    refine NX.blk_hit ?_
                    refine NX.seq ?_
                    refine WC.region ?_
                    refine TL.yld rfl rfl (yld_move rfl rfl) ?_
                    refine TL.yld rfl rfl (yld_add rfl rfl rfl) ?_
                    refine TL.yld rfl rfl (yld_assign rfl rfl) ?_
                    refine TL.done ?_
                    refine NX.then_n ?_
                    intro a hK; exact ⟨m6, Nat.lt_succ_self m6, (IntKind.wrap IntKind.i64 (i5 + 1)), hK.weaken ⟨rfl, rfl, trivial⟩, he69, (by omega), hF⟩
                · intro hc73
                  replace hF := bif_f hc73 hF
                  refine WC.skip' ?_
                  refine NX.seq ?_
                  refine WC.seq ?_
                  refine WC.region ?_
                  refine TL.yld rfl rfl (yld_fieldAddr rfl fo_75_5 rfl) ?_
                  refine TL.yld rfl rfl (yld_load1 5 rfl ag_2 rfl (Box.cells hb45) rfl rfl) ?_
                  refine TL.yld rfl rfl (yld_move rfl rfl) ?_
                  refine TL.yld rfl rfl (yld_sub rfl rfl rfl) ?_
                  obtain ⟨r74, hr75, hF⟩ := bsome hF
                  refine TL.eff rfl rfl (eff_call rfl gf_52 rfl (W_spec_l01In hr75)) ?_
                  rintro _ w76 ⟨rfl, hx77⟩
                  have he78 : Ext w w76 := Ext.trans he43 hx77
                  have hb45 := Box.ext hb45 hx77
                  have hz79 := (hx77).size
                  refine TL.yld rfl rfl (yld_not rfl rfl) ?_
                  refine TL.yld rfl rfl (yld_move rfl rfl) ?_
                  obtain ⟨c80, hb81, hF⟩ := bsome hF
                  refine TL.cut 5 [(0, v1), (3, .int .i64 i5), (4, .pointer (some ⟨b22, 0, none⟩)), (54, .bool c80)] (fun w' => Ext w76 w') ?_ ?_
                  · rcases Bool.eq_false_or_eq_true (!r74) with hg82 | hg82
                    ·
                      rw [hg82] at hb81; simp only [cond_true, cond_false] at hb81
                      refine TL.gnu (j := 6) (t := 49) rfl rfl rfl hg82 rfl ?_
                      refine TL.gnu (j := 6) (t := 49) rfl rfl rfl hg82 rfl ?_
                      refine TL.gnu (j := 6) (t := 49) rfl rfl rfl hg82 rfl ?_
                      refine TL.gnu (j := 6) (t := 49) rfl rfl rfl hg82 rfl ?_
                      obtain rfl := Option.some.inj hb81
                      refine TL.yld rfl rfl (yld_pick_t rfl rfl hg82 rfl) ?_
                      exact TL.nil fun a h => ⟨h.weaken ⟨rfl, rfl, rfl, rfl, trivial⟩, Ext.refl _⟩
                    ·
                      rw [hg82] at hb81; simp only [cond_true, cond_false] at hb81
                      replace hF := hb81
                      refine TL.gy (j := 6) (t := 49) rfl rfl rfl hg82 rfl (yld_fieldAddr rfl fo_75_6 rfl) ?_
                      refine TL.gy (j := 6) (t := 49) rfl rfl rfl hg82 rfl (yld_load1 6 rfl ag_2 rfl (Box.cells hb45) rfl rfl) ?_
                      obtain ⟨r83, hr84, hF⟩ := bsome hF
                      refine TL.ge (j := 6) (t := 49) rfl rfl rfl hg82 rfl (eff_call rfl gf_52 rfl (W_spec_l01In hr84)) ?_
                      rintro _ w85 ⟨rfl, hx86⟩
                      have he87 : Ext w w85 := Ext.trans he78 hx86
                      have hb45 := Box.ext hb45 hx86
                      have hz88 := (hx86).size
                      refine TL.gy (j := 6) (t := 49) rfl rfl rfl hg82 rfl (yld_not rfl rfl) ?_
                      obtain rfl := Option.some.inj hF
                      refine TL.yld rfl rfl (yld_pick_f rfl rfl hg82 rfl) ?_
                      exact TL.nil fun a h => ⟨h.weaken ⟨rfl, rfl, rfl, rfl, trivial⟩, hx86⟩
                  intro w89 hx90
                  have he91 : Ext w w89 := Ext.trans he78 hx90
                  have hb45 := Box.ext hb45 hx90
                  have hz92 := (hx90).size
                  refine TL.yld rfl rfl (yld_move rfl rfl) ?_
                  refine TL.cut 4 [(0, v1), (3, .int .i64 i5), (4, .pointer (some ⟨b22, 0, none⟩)), (59, .bool ((c80 || ((x14.Period != 0)))))] (fun w' => Ext w89 w') ?_ ?_
                  · rcases Bool.eq_false_or_eq_true c80 with hg93 | hg93
                    ·
                      refine TL.gnu (j := 12) (t := 55) rfl rfl rfl hg93 rfl ?_
                      refine TL.gnu (j := 12) (t := 55) rfl rfl rfl hg93 rfl ?_
                      refine TL.gnu (j := 12) (t := 55) rfl rfl rfl hg93 rfl ?_
                      refine TL.yld rfl rfl (yld_or_t (b2 := (x14.Period != 0)) rfl rfl hg93 rfl) ?_
                      exact TL.nil fun a h => ⟨h.weaken ⟨rfl, rfl, rfl, rfl, trivial⟩, Ext.refl _⟩
                    ·
                      refine TL.gy (j := 12) (t := 55) rfl rfl rfl hg93 rfl (yld_fieldAddr rfl fo_75_2 rfl) ?_
                      refine TL.gy (j := 12) (t := 55) rfl rfl rfl hg93 rfl (yld_load1 2 rfl ag_2 rfl (Box.cells hb45) rfl rfl) ?_
                      refine TL.gy (j := 12) (t := 55) rfl rfl rfl hg93 rfl (yld_neq rfl rfl rfl) ?_
                      refine TL.yld rfl rfl (yld_or_f rfl rfl hg93 rfl) ?_
                      exact TL.nil fun a h => ⟨h.weaken ⟨rfl, rfl, rfl, rfl, trivial⟩, Ext.refl _⟩
                  intro w94 hx95
                  have he96 : Ext w w94 := Ext.trans he91 hx95
                  have hb45 := Box.ext hb45 hx95
                  have hz97 := (hx95).size
                  refine TL.yld rfl rfl (yld_move rfl rfl) ?_
                  refine TL.cut 4 [(0, v1), (3, .int .i64 i5), (4, .pointer (some ⟨b22, 0, none⟩)), (64, .bool ((((c80 || ((x14.Period != 0)))) || ((x14.RiseAt != 0)))))] (fun w' => Ext w94 w') ?_ ?_
                  · rcases Bool.eq_false_or_eq_true ((c80 || ((x14.Period != 0)))) with hg98 | hg98
                    ·
                      refine TL.gnu (j := 17) (t := 60) rfl rfl rfl hg98 rfl ?_
                      refine TL.gnu (j := 17) (t := 60) rfl rfl rfl hg98 rfl ?_
                      refine TL.gnu (j := 17) (t := 60) rfl rfl rfl hg98 rfl ?_
                      refine TL.yld rfl rfl (yld_or_t (b2 := (x14.RiseAt != 0)) rfl rfl hg98 rfl) ?_
                      exact TL.nil fun a h => ⟨h.weaken ⟨rfl, rfl, rfl, rfl, trivial⟩, Ext.refl _⟩
                    ·
                      refine TL.gy (j := 17) (t := 60) rfl rfl rfl hg98 rfl (yld_fieldAddr rfl fo_75_3 rfl) ?_
                      refine TL.gy (j := 17) (t := 60) rfl rfl rfl hg98 rfl (yld_load1 3 rfl ag_2 rfl (Box.cells hb45) rfl rfl) ?_
                      refine TL.gy (j := 17) (t := 60) rfl rfl rfl hg98 rfl (yld_neq rfl rfl rfl) ?_
                      refine TL.yld rfl rfl (yld_or_f rfl rfl hg98 rfl) ?_
                      exact TL.nil fun a h => ⟨h.weaken ⟨rfl, rfl, rfl, rfl, trivial⟩, Ext.refl _⟩
                  intro w99 hx100
                  have he101 : Ext w w99 := Ext.trans he96 hx100
                  have hb45 := Box.ext hb45 hx100
                  have hz102 := (hx100).size
                  refine TL.yld rfl rfl (yld_move rfl rfl) ?_
                  refine TL.cut 4 [(0, v1), (3, .int .i64 i5), (69, .bool ((((((c80 || ((x14.Period != 0)))) || ((x14.RiseAt != 0)))) || ((x14.FallAt != 0)))))] (fun w' => Ext w99 w') ?_ ?_
                  · rcases Bool.eq_false_or_eq_true ((((c80 || ((x14.Period != 0)))) || ((x14.RiseAt != 0)))) with hg103 | hg103
                    ·
                      refine TL.gnu (j := 22) (t := 65) rfl rfl rfl hg103 rfl ?_
                      refine TL.gnu (j := 22) (t := 65) rfl rfl rfl hg103 rfl ?_
                      refine TL.gnu (j := 22) (t := 65) rfl rfl rfl hg103 rfl ?_
                      refine TL.yld rfl rfl (yld_or_t (b2 := (x14.FallAt != 0)) rfl rfl hg103 rfl) ?_
                      exact TL.nil fun a h => ⟨h.weaken ⟨rfl, rfl, rfl, trivial⟩, Ext.refl _⟩
                    ·
                      refine TL.gy (j := 22) (t := 65) rfl rfl rfl hg103 rfl (yld_fieldAddr rfl fo_75_4 rfl) ?_
                      refine TL.gy (j := 22) (t := 65) rfl rfl rfl hg103 rfl (yld_load1 4 rfl ag_2 rfl (Box.cells hb45) rfl rfl) ?_
                      refine TL.gy (j := 22) (t := 65) rfl rfl rfl hg103 rfl (yld_neq rfl rfl rfl) ?_
                      refine TL.yld rfl rfl (yld_or_f rfl rfl hg103 rfl) ?_
                      exact TL.nil fun a h => ⟨h.weaken ⟨rfl, rfl, rfl, trivial⟩, Ext.refl _⟩
                  intro w104 hx105
                  have he106 : Ext w w104 := Ext.trans he101 hx105
                  have hb45 := Box.ext hb45 hx105
                  have hz107 := (hx105).size
                  refine TL.yld rfl rfl (yld_move rfl rfl) ?_
                  obtain ⟨c108, hb109, hF⟩ := bsome hF
                  refine TL.cut 6 [(0, v1), (3, .int .i64 i5), (76, .bool c108)] (fun w' => Ext w104 w') ?_ ?_
                  · rcases Bool.eq_false_or_eq_true ((((((c80 || ((x14.Period != 0)))) || ((x14.RiseAt != 0)))) || ((x14.FallAt != 0)))) with hg110 | hg110
                    ·
                      rw [hg110] at hb109; simp only [cond_true, cond_false] at hb109
                      refine TL.gnu (j := 27) (t := 70) rfl rfl rfl hg110 rfl ?_
                      refine TL.gnu (j := 27) (t := 70) rfl rfl rfl hg110 rfl ?_
                      refine TL.gnu (j := 27) (t := 70) rfl rfl rfl hg110 rfl ?_
                      refine TL.gnu (j := 27) (t := 70) rfl rfl rfl hg110 rfl ?_
                      refine TL.gnu (j := 27) (t := 70) rfl rfl rfl hg110 rfl ?_
                      obtain rfl := Option.some.inj hb109
                      refine TL.yld rfl rfl (yld_pick_t rfl rfl hg110 rfl) ?_
                      exact TL.nil fun a h => ⟨h.weaken ⟨rfl, rfl, rfl, trivial⟩, Ext.refl _⟩
                    ·
                      rw [hg110] at hb109; simp only [cond_true, cond_false] at hb109
                      replace hF := hb109
                      refine TL.gy (j := 27) (t := 70) rfl rfl rfl hg110 rfl (yld_move rfl rfl) ?_
                      refine TL.gy (j := 27) (t := 70) rfl rfl rfl hg110 rfl (yld_move rfl rfl) ?_
                      obtain ⟨r111, hr112, hF⟩ := bsome hF
                      refine TL.ge (j := 27) (t := 70) rfl rfl rfl hg110 rfl (eff_call rfl gf_51 rfl (W_spec_l14Of hr112 ((slRep.old ha2 he106 (Nat.le_refl _)).wide (Nat.le_refl _) (he106).size))) ?_
                      rintro _ w113 ⟨rfl, hx114⟩
                      have he115 : Ext w w113 := Ext.trans he106 hx114
                      have hb45 := Box.ext hb45 hx114
                      have hz116 := (hx114).size
                      refine TL.gy (j := 27) (t := 70) rfl rfl rfl hg110 rfl (yld_field1 rfl ft_79_0 ag_2 rfl rfl) ?_
                      refine TL.gy (j := 27) (t := 70) rfl rfl rfl hg110 rfl (yld_gtr rfl rfl rfl) ?_
                      obtain rfl := Option.some.inj hF
                      refine TL.yld rfl rfl (yld_pick_f rfl rfl hg110 rfl) ?_
                      exact TL.nil fun a h => ⟨h.weaken ⟨rfl, rfl, rfl, trivial⟩, hx114⟩
                  intro w117 hx118
                  have he119 : Ext w w117 := Ext.trans he106 hx118
                  have hb45 := Box.ext hb45 hx118
                  have hz120 := (hx118).size
                  refine TL.done ?_
                  refine NX.seq ?_
                  refine WC.cond rfl ?_ ?_
                  · intro hc121
                    replace hF := bif_t hc121 hF
                    refine WC.seq ?_
                    refine WC.region ?_
                    refine TL.yld rfl rfl (yld_assign rfl rfl) ?_
                    refine TL.done ?_
                    refine NX.seq ?_
                    refine WC.ret' ?_
                    refine NX.blk_r ?_
                    refine NX.then_r ?_
                    refine NX.then_r ?_
                    refine NX.blk_r ?_
                    refine NX.then_r ?_
                    obtain rfl := Option.some.inj hF
                    exact NX.end (rs := [.tmp 2]) (vs := [.bool false]) rfl ⟨rfl, trivial⟩ ⟨_, rfl, rfl, he119⟩
                  · intro hc122
                    replace hF := bif_f hc122 hF
                    refine WC.skip' ?_
                    refine NX.blk_n ?_
                    refine NX.seq ?_
                    refine WC.region ?_
                    refine TL.yld rfl rfl (yld_move rfl rfl) ?_
                    refine TL.yld rfl rfl (yld_add rfl rfl rfl) ?_
                    refine TL.yld rfl rfl (yld_assign rfl rfl) ?_
                    refine TL.done ?_
                    refine NX.then_n ?_
                    intro a hK; exact ⟨m6, Nat.lt_succ_self m6, (IntKind.wrap IntKind.i64 (i5 + 1)), hK.weaken ⟨rfl, rfl, trivial⟩, he119, (by omega), hF⟩
      · intro hc123
        replace hF := bif_f hc123 hF
        refine WC.exit' ?_
        refine NX.then_e ?_
        refine NX.then_e ?_
        refine NX.blk_hit ?_
        refine NX.seq ?_
        refine WC.seq ?_
        refine WC.region ?_
        refine TL.yld rfl rfl (yld_move rfl rfl) ?_
        refine TL.yld rfl rfl (ye_len (c := C_Clock) rfl Tryd.underlying26 rfl (slRep.old ha2 he11 (Nat.le_refl _))) ?_
        refine TL.yld rfl rfl (yld_leq rfl rfl rfl) ?_
        refine TL.yld rfl rfl (yld_assign rfl rfl) ?_
        refine TL.done ?_
        refine NX.seq ?_
        refine WC.ret' ?_
        obtain rfl := Option.some.inj hF
        exact NX.end (rs := [.tmp 2]) (vs := [.bool (decide ((a0_list.length : Int) ≤ 6))]) rfl ⟨rfl, trivial⟩ ⟨_, rfl, rfl, he11⟩

-- loop.example/g00861/spec.l14Root
def F_spec_l14Root_L1 (a0_list : List S_Clock) (k0 : Int → Option Int) : Nat → Int → Option Int
  | 0 => fun _ => none
  | m + 1 => fun i5 => (Option.bind (getI a0_list i5) fun x6 => (bif decide (x6.Source ≥ 0) then (Option.bind (getI a0_list i5) fun x15 => (F_spec_l14Root_L1 a0_list k0 m x15.Source)) else (k0 i5)))
theorem F_spec_l14Root_L1_z (a0_list : List S_Clock) (k0 : Int → Option Int) (i5 : Int) : F_spec_l14Root_L1 a0_list k0 0 i5 = none := rfl
theorem F_spec_l14Root_L1_s (m : Nat) (a0_list : List S_Clock) (k0 : Int → Option Int) (i5 : Int) : F_spec_l14Root_L1 a0_list k0 (m + 1) i5 = (Option.bind (getI a0_list i5) fun x6 => (bif decide (x6.Source ≥ 0) then (Option.bind (getI a0_list i5) fun x15 => (F_spec_l14Root_L1 a0_list k0 m x15.Source)) else (k0 i5))) := rfl

def F_spec_l14Root (n : Nat) (a0_list : List S_Clock) (a1_k : Int) : Option Int := (F_spec_l14Root_L1 a0_list (fun i5 => (some i5)) n a1_k)
set_option maxHeartbeats 40000000 in
theorem W_spec_l14Root {n : Nat} {a0_list : List S_Clock} {a1_k : Int} {r : Int} {w : World} {v1 : Value} (hF : F_spec_l14Root n a0_list a1_k = some r) (ha2 : slRep C_Clock w (Iv 0 w.heap.size) a0_list v1) :
    Calls Tryd.prog 94 [v1, .int .i64 a1_k].toArray w (Ret fun u w2 => u = .int .i64 r ∧ Ext w w2) := by
  refine calls_of Tryd.func94 rfl Tryd.ntmps94 ?_
  have he0 : Ext w w := Ext.refl w
  unfold F_spec_l14Root at hF
  refine WC.seq ?_
  refine WC.region ?_
  refine TL.yld rfl rfl (yld_assign rfl rfl) ?_
  refine TL.done ?_
  refine NX.seq ?_
  refine WC.seq ?_
  refine WC.block ?_
  refine WC.loop (fun m6 a wl => ∃ (i5 : Int), Kn 17 [(0, v1), (1, .int .i64 i5)] a ∧ Ext w wl ∧ w.heap.size ≤ wl.heap.size ∧ F_spec_l14Root_L1 a0_list (fun i5 => (some i5)) m6 i5 = some r) n ?_ ?_
  · intro a hK; exact ⟨a1_k, hK.weaken ⟨rfl, rfl, trivial⟩, he0, Nat.le_refl _, hF⟩
  · rintro m6 a w3 ⟨i5, hK, he4, hz7, hF⟩
    revert hK; revert a; refine (?_ : WC _ _ _ _ _ _)
    cases m6 with
    | zero => rw [F_spec_l14Root_L1_z] at hF; cases hF
    | succ m6 =>
      rw [F_spec_l14Root_L1_s] at hF
      refine WC.seq ?_
      refine WC.seq ?_
      refine WC.region ?_
      refine TL.yld rfl rfl (yld_move rfl rfl) ?_
      refine TL.yld rfl rfl (yld_move rfl rfl) ?_
      obtain ⟨x8, hy9, hF⟩ := bsome hF
      refine TL.ye rfl rfl (ye_index (c := C_Clock) rfl Tryd.underlying26 cn_75 rfl rfl (slRep.old ha2 he4 (Nat.le_refl _)) hy9) ?_
      rintro _ ⟨b10, o11, us12, rfl, hib15, hr13, hcl14⟩
      have hib15 : 0 ≤ b10 ∧ b10 < w.heap.size := ⟨hib15.1, by have := hib15.2; omega⟩
      obtain rfl := C_Clock_open hr13
      refine TL.yld rfl rfl (yld_fieldAddr rfl fo_75_5 rfl) ?_
      refine TL.yld rfl rfl (yld_load1 5 rfl ag_2 rfl hcl14 rfl rfl) ?_
      refine TL.yld rfl rfl (yld_geq rfl rfl rfl) ?_
      refine TL.done ?_
      refine NX.seq ?_
      refine WC.cond rfl ?_ ?_
      · intro hc16
        replace hF := bif_t hc16 hF
        refine WC.skip' ?_
        refine NX.seq ?_
        refine WC.block ?_
        refine WC.region ?_
        refine TL.yld rfl rfl (yld_move rfl rfl) ?_
        refine TL.yld rfl rfl (yld_move rfl rfl) ?_
        obtain ⟨x17, hy18, hF⟩ := bsome hF
        refine TL.ye rfl rfl (ye_index (c := C_Clock) rfl Tryd.underlying26 cn_75 rfl rfl (slRep.old ha2 he4 (Nat.le_refl _)) hy18) ?_
        rintro _ ⟨b19, o20, us21, rfl, hib24, hr22, hcl23⟩
        have hib24 : 0 ≤ b19 ∧ b19 < w.heap.size := ⟨hib24.1, by have := hib24.2; omega⟩
        obtain rfl := C_Clock_open hr22
        refine TL.yld rfl rfl (yld_fieldAddr rfl fo_75_5 rfl) ?_
        refine TL.yld rfl rfl (yld_load1 5 rfl ag_2 rfl hcl23 rfl rfl) ?_
        refine TL.yld rfl rfl (yld_assign rfl rfl) ?_
        refine TL.done ?_
        refine NX.blk_n ?_
        refine NX.then_n ?_
        intro a hK; exact ⟨m6, Nat.lt_succ_self m6, x17.Source, hK.weaken ⟨rfl, rfl, trivial⟩, he4, (by omega), hF⟩
      · intro hc25
        replace hF := bif_f hc25 hF
        refine WC.exit' ?_
        refine NX.then_e ?_
        refine NX.then_e ?_
        refine NX.blk_hit ?_
        refine NX.seq ?_
        refine WC.seq ?_
        refine WC.region ?_
        refine TL.yld rfl rfl (yld_move rfl rfl) ?_
        refine TL.yld rfl rfl (yld_assign rfl rfl) ?_
        refine TL.done ?_
        refine NX.seq ?_
        refine WC.ret' ?_
        obtain rfl := Option.some.inj hF
        exact NX.end (rs := [.tmp 4]) (vs := [.int .i64 i5]) rfl ⟨rfl, trivial⟩ ⟨_, rfl, rfl, he4⟩

-- loop.example/g00861/spec.l14Gcd
def F_spec_l14Gcd_L1 (k0 : Int → Int → Option Int) : Nat → Int → Int → Option Int
  | 0 => fun _ _ => none
  | m + 1 => fun i3 i4 => (bif decide (i4 > 0) then (bif (i4 == 0) then none else (F_spec_l14Gcd_L1 k0 m i4 (Int.tmod i3 i4))) else (k0 i3 i4))
theorem F_spec_l14Gcd_L1_z (k0 : Int → Int → Option Int) (i3 : Int) (i4 : Int) : F_spec_l14Gcd_L1 k0 0 i3 i4 = none := rfl
theorem F_spec_l14Gcd_L1_s (m : Nat) (k0 : Int → Int → Option Int) (i3 : Int) (i4 : Int) : F_spec_l14Gcd_L1 k0 (m + 1) i3 i4 = (bif decide (i4 > 0) then (bif (i4 == 0) then none else (F_spec_l14Gcd_L1 k0 m i4 (Int.tmod i3 i4))) else (k0 i3 i4)) := rfl

def F_spec_l14Gcd (n : Nat) (a0_a : Int) (a1_b : Int) : Option Int := (F_spec_l14Gcd_L1 (fun i3 i4 => (some i3)) n a0_a a1_b)
set_option maxHeartbeats 40000000 in
theorem W_spec_l14Gcd {n : Nat} {a0_a : Int} {a1_b : Int} {r : Int} {w : World} (hF : F_spec_l14Gcd n a0_a a1_b = some r) :
    Calls Tryd.prog 131 [.int .i64 a0_a, .int .i64 a1_b].toArray w (Ret fun u w2 => u = .int .i64 r ∧ Ext w w2) := by
  refine calls_of Tryd.func131 rfl Tryd.ntmps131 ?_
  have he0 : Ext w w := Ext.refl w
  unfold F_spec_l14Gcd at hF
  refine WC.seq ?_
  refine WC.region ?_
  refine TL.yld rfl rfl (yld_assign rfl rfl) ?_
  refine TL.done ?_
  refine NX.seq ?_
  refine WC.seq ?_
  refine WC.block ?_
  refine WC.loop (fun m5 a wl => ∃ (i3 : Int) (i4 : Int), Kn 14 [(0, .int .i64 i3), (1, .int .i64 i4)] a ∧ Ext w wl ∧ w.heap.size ≤ wl.heap.size ∧ F_spec_l14Gcd_L1 (fun i3 i4 => (some i3)) m5 i3 i4 = some r) n ?_ ?_
  · intro a hK; exact ⟨a0_a, a1_b, hK.weaken ⟨rfl, rfl, trivial⟩, he0, Nat.le_refl _, hF⟩
  · rintro m5 a w1 ⟨i3, i4, hK, he2, hz6, hF⟩
    revert hK; revert a; refine (?_ : WC _ _ _ _ _ _)
    cases m5 with
    | zero => rw [F_spec_l14Gcd_L1_z] at hF; cases hF
    | succ m5 =>
      rw [F_spec_l14Gcd_L1_s] at hF
      refine WC.seq ?_
      refine WC.seq ?_
      refine WC.region ?_
      refine TL.yld rfl rfl (yld_move rfl rfl) ?_
      refine TL.yld rfl rfl (yld_gtr rfl rfl rfl) ?_
      refine TL.done ?_
      refine NX.seq ?_
      refine WC.cond rfl ?_ ?_
      · intro hc7
        replace hF := bif_t hc7 hF
        refine WC.skip' ?_
        refine NX.seq ?_
        refine WC.block ?_
        refine WC.seq ?_
        refine WC.region ?_
        refine TL.yld rfl rfl (yld_move rfl rfl) ?_
        refine TL.yld rfl rfl (yld_move rfl rfl) ?_
        obtain ⟨hn8, hF⟩ := nzero hF
        refine TL.yld rfl rfl (yld_rem rfl rfl rfl hn8) ?_
        refine TL.yld rfl rfl (yld_assign rfl rfl) ?_
        refine TL.done ?_
        refine NX.seq ?_
        refine WC.seq ?_
        refine WC.region ?_
        refine TL.yld rfl rfl (yld_move rfl rfl) ?_
        refine TL.yld rfl rfl (yld_assign rfl rfl) ?_
        refine TL.done ?_
        refine NX.seq ?_
        refine WC.region ?_
        refine TL.yld rfl rfl (yld_move rfl rfl) ?_
        refine TL.yld rfl rfl (yld_assign rfl rfl) ?_
        refine TL.done ?_
        refine NX.blk_n ?_
        refine NX.then_n ?_
        intro a hK; exact ⟨m5, Nat.lt_succ_self m5, i4, (Int.tmod i3 i4), hK.weaken ⟨rfl, rfl, trivial⟩, he2, (by omega), hF⟩
      · intro hc9
        replace hF := bif_f hc9 hF
        refine WC.exit' ?_
        refine NX.then_e ?_
        refine NX.then_e ?_
        refine NX.blk_hit ?_
        refine NX.seq ?_
        refine WC.seq ?_
        refine WC.region ?_
        refine TL.yld rfl rfl (yld_move rfl rfl) ?_
        refine TL.yld rfl rfl (yld_assign rfl rfl) ?_
        refine TL.done ?_
        refine NX.seq ?_
        refine WC.ret' ?_
        obtain rfl := Option.some.inj hF
        exact NX.end (rs := [.tmp 4]) (vs := [.int .i64 i3]) rfl ⟨rfl, trivial⟩ ⟨_, rfl, rfl, he2⟩

-- loop.example/g00861/spec.l14Hyper
def F_spec_l14Hyper (n : Nat) (a0_list : List S_Clock) (a1_a : Int) (a2_b : Int) : Option Int := (Option.bind (F_spec_l14Of n a0_list a1_a) fun r3 => (Option.bind (F_spec_l14Of n a0_list a2_b) fun r9 => (Option.bind (F_spec_l14Gcd n r3.period_ r9.period_) fun r15 => (bif (r15 == 0) then none else (some (IntKind.wrap IntKind.i64 ((IntKind.wrap IntKind.i64 (Int.tdiv r3.period_ r15)) * r9.period_)))))))
set_option maxHeartbeats 40000000 in
theorem W_spec_l14Hyper {n : Nat} {a0_list : List S_Clock} {a1_a : Int} {a2_b : Int} {r : Int} {w : World} {v1 : Value} (hF : F_spec_l14Hyper n a0_list a1_a a2_b = some r) (ha2 : slRep C_Clock w (Iv 0 w.heap.size) a0_list v1) :
    Calls Tryd.prog 95 [v1, .int .i64 a1_a, .int .i64 a2_b].toArray w (Ret fun u w2 => u = .int .i64 r ∧ Ext w w2) := by
  refine calls_of Tryd.func95 rfl Tryd.ntmps95 ?_
  have he0 : Ext w w := Ext.refl w
  unfold F_spec_l14Hyper at hF
  refine WC.seq ?_
  refine WC.region ?_
  refine TL.yld rfl rfl (yld_assign rfl rfl) ?_
  refine TL.done ?_
  refine NX.seq ?_
  refine WC.seq ?_
  refine WC.region ?_
  refine TL.yld rfl rfl (yld_move rfl rfl) ?_
  refine TL.yld rfl rfl (yld_move rfl rfl) ?_
  obtain ⟨r3, hr4, hF⟩ := bsome hF
  refine TL.eff rfl rfl (eff_call rfl gf_51 rfl (W_spec_l14Of hr4 ((slRep.old ha2 he0 (Nat.le_refl _)).wide (Nat.le_refl _) (he0).size))) ?_
  rintro _ w5 ⟨rfl, hx6⟩
  have he7 : Ext w w5 := Ext.trans he0 hx6
  have hz8 := (hx6).size
  refine TL.yld rfl rfl (yld_field1 rfl ft_79_0 ag_2 rfl rfl) ?_
  refine TL.yld rfl rfl (yld_move rfl rfl) ?_
  refine TL.yld rfl rfl (yld_move rfl rfl) ?_
  obtain ⟨r9, hr10, hF⟩ := bsome hF
  refine TL.eff rfl rfl (eff_call rfl gf_51 rfl (W_spec_l14Of hr10 ((slRep.old ha2 he7 (Nat.le_refl _)).wide (Nat.le_refl _) (he7).size))) ?_
  rintro _ w11 ⟨rfl, hx12⟩
  have he13 : Ext w w11 := Ext.trans he7 hx12
  have hz14 := (hx12).size
  refine TL.yld rfl rfl (yld_field1 rfl ft_79_0 ag_2 rfl rfl) ?_
  refine TL.yld rfl rfl (yld_assign rfl rfl) ?_
  refine TL.yld rfl rfl (yld_assign rfl rfl) ?_
  refine TL.done ?_
  refine NX.seq ?_
  refine WC.seq ?_
  refine WC.region ?_
  refine TL.yld rfl rfl (yld_move rfl rfl) ?_
  refine TL.yld rfl rfl (yld_move rfl rfl) ?_
  refine TL.yld rfl rfl (yld_move rfl rfl) ?_
  obtain ⟨r15, hr16, hF⟩ := bsome hF
  refine TL.eff rfl rfl (eff_call rfl gf_131 rfl (W_spec_l14Gcd hr16)) ?_
  rintro _ w17 ⟨rfl, hx18⟩
  have he19 : Ext w w17 := Ext.trans he13 hx18
  have hz20 := (hx18).size
  obtain ⟨hn21, hF⟩ := nzero hF
  refine TL.yld rfl rfl (yld_quo rfl rfl rfl hn21) ?_
  refine TL.yld rfl rfl (yld_move rfl rfl) ?_
  refine TL.yld rfl rfl (yld_mul rfl rfl rfl) ?_
  refine TL.yld rfl rfl (yld_assign rfl rfl) ?_
  refine TL.done ?_
  refine NX.seq ?_
  refine WC.ret' ?_
  obtain rfl := Option.some.inj hF
  exact NX.end (rs := [.tmp 6]) (vs := [.int .i64 (IntKind.wrap IntKind.i64 ((IntKind.wrap IntKind.i64 (Int.tdiv r3.period_ r15)) * r9.period_))]) rfl ⟨rfl, trivial⟩ ⟨_, rfl, rfl, he19⟩

-- loop.example/g00861/spec.l15Code
def F_spec_l15Code (n : Nat) (a0_list : List S_Clock) (a1_a : Int) (a2_ea : Int) (a3_b : Int) (a4_eb : Int) : Option Int := (Option.bind (F_spec_IsClocks n a0_list) fun r3 => (bif (!r3) then (some 1) else (Option.bind (F_spec_l01In n a1_a 0 (IntKind.wrap IntKind.i64 (((a0_list.length : Int)) - 1))) fun r11 => (Option.bind (bif (!r11) then (some true) else (Option.bind (F_spec_l01In n a3_b 0 (IntKind.wrap IntKind.i64 (((a0_list.length : Int)) - 1))) fun r17 => (some (!r17)))) fun c17 => (bif c17 then (some 4) else (Option.bind (F_spec_l01In n a2_ea 0 1) fun r32 => (Option.bind (bif (!r32) then (some true) else (Option.bind (F_spec_l01In n a4_eb 0 1) fun r38 => (some (!r38)))) fun c38 => (bif c38 then (some 2) else (Option.bind (F_spec_l14Root n a0_list a1_a) fun r53 => (Option.bind (F_spec_l14Root n a0_list a3_b) fun r59 => (bif (r53 != r59) then (some 5) else (Option.bind (F_spec_l14Hyper n a0_list a1_a a3_b) fun r67 => (Option.bind (bif decide (r67 > 100000000) then (some true) else (Option.bind (F_spec_l14Of n a0_list a1_a) fun r73 => (bif (r73.period_ == 0) then none else (some (decide (IntKind.wrap IntKind.i64 (Int.tdiv r67 r73.period_) > 200)))))) fun c73 => (bif c73 then (some 3) else (some 0)))))))))))))))
set_option maxHeartbeats 40000000 in
theorem W_spec_l15Code {n : Nat} {a0_list : List S_Clock} {a1_a : Int} {a2_ea : Int} {a3_b : Int} {a4_eb : Int} {r : Int} {w : World} {v1 : Value} (hF : F_spec_l15Code n a0_list a1_a a2_ea a3_b a4_eb = some r) (ha2 : slRep C_Clock w (Iv 0 w.heap.size) a0_list v1) :
    Calls Tryd.prog 47 [v1, .int .i64 a1_a, .int .i64 a2_ea, .int .i64 a3_b, .int .i64 a4_eb].toArray w (Ret fun u w2 => u = .int .i64 r ∧ Ext w w2) := by
  refine calls_of Tryd.func47 rfl Tryd.ntmps47 ?_
  have he0 : Ext w w := Ext.refl w
  unfold F_spec_l15Code at hF
  refine WC.seq ?_
  refine WC.region ?_
  refine TL.yld rfl rfl (yld_assign rfl rfl) ?_
  refine TL.done ?_
  refine NX.seq ?_
  refine WC.seq ?_
  refine WC.seq ?_
  refine WC.region ?_
  refine TL.yld rfl rfl (yld_move rfl rfl) ?_
  obtain ⟨r3, hr4, hF⟩ := bsome hF
  refine TL.eff rfl rfl (eff_call rfl gf_93 rfl (W_spec_IsClocks hr4 ((slRep.old ha2 he0 (Nat.le_refl _)).wide (Nat.le_refl _) (he0).size))) ?_
  rintro _ w5 ⟨rfl, hx6⟩
  have he7 : Ext w w5 := Ext.trans he0 hx6
  have hz8 := (hx6).size
  refine TL.yld rfl rfl (yld_not rfl rfl) ?_
  refine TL.done ?_
  refine NX.seq ?_
  refine WC.cond rfl ?_ ?_
  · intro hc9
    replace hF := bif_t hc9 hF
    refine WC.seq ?_
    refine WC.region ?_
    refine TL.yld rfl rfl (yld_assign rfl rfl) ?_
    refine TL.done ?_
    refine NX.seq ?_
    refine WC.ret' ?_
    refine NX.then_r ?_
    obtain rfl := Option.some.inj hF
    exact NX.end (rs := [.tmp 10]) (vs := [.int .i64 1]) rfl ⟨rfl, trivial⟩ ⟨_, rfl, rfl, he7⟩
  · intro hc10
    replace hF := bif_f hc10 hF
    refine WC.skip' ?_
    refine NX.seq ?_
    refine WC.seq ?_
    refine WC.region ?_
    refine TL.yld rfl rfl (yld_move rfl rfl) ?_
    refine TL.yld rfl rfl (ye_len (c := C_Clock) rfl Tryd.underlying26 rfl (slRep.old ha2 he7 (Nat.le_refl _))) ?_
    refine TL.yld rfl rfl (yld_sub rfl rfl rfl) ?_
    refine TL.yld rfl rfl (yld_assign rfl rfl) ?_
    refine TL.done ?_
    refine NX.seq ?_
    refine WC.seq ?_
    refine WC.block ?_
    refine WC.seq ?_
    refine WC.region ?_
    refine TL.yld rfl rfl (yld_move rfl rfl) ?_
    refine TL.yld rfl rfl (yld_move rfl rfl) ?_
    obtain ⟨r11, hr12, hF⟩ := bsome hF
    refine TL.eff rfl rfl (eff_call rfl gf_52 rfl (W_spec_l01In hr12)) ?_
    rintro _ w13 ⟨rfl, hx14⟩
    have he15 : Ext w w13 := Ext.trans he7 hx14
    have hz16 := (hx14).size
    refine TL.yld rfl rfl (yld_not rfl rfl) ?_
    refine TL.yld rfl rfl (yld_move rfl rfl) ?_
    obtain ⟨c17, hb18, hF⟩ := bsome hF
    refine TL.cut 5 [(0, v1), (1, .int .i64 a1_a), (2, .int .i64 a2_ea), (3, .int .i64 a3_b), (4, .int .i64 a4_eb), (29, .bool c17)] (fun w' => Ext w13 w') ?_ ?_
    · rcases Bool.eq_false_or_eq_true (!r11) with hg19 | hg19
      ·
        rw [hg19] at hb18; simp only [cond_true, cond_false] at hb18
        refine TL.gnu (j := 4) (t := 24) rfl rfl rfl hg19 rfl ?_
        refine TL.gnu (j := 4) (t := 24) rfl rfl rfl hg19 rfl ?_
        refine TL.gnu (j := 4) (t := 24) rfl rfl rfl hg19 rfl ?_
        refine TL.gnu (j := 4) (t := 24) rfl rfl rfl hg19 rfl ?_
        obtain rfl := Option.some.inj hb18
        refine TL.yld rfl rfl (yld_pick_t rfl rfl hg19 rfl) ?_
        exact TL.nil fun a h => ⟨h.weaken ⟨rfl, rfl, rfl, rfl, rfl, rfl, trivial⟩, Ext.refl _⟩
      ·
        rw [hg19] at hb18; simp only [cond_true, cond_false] at hb18
        replace hF := hb18
        refine TL.gy (j := 4) (t := 24) rfl rfl rfl hg19 rfl (yld_move rfl rfl) ?_
        refine TL.gy (j := 4) (t := 24) rfl rfl rfl hg19 rfl (yld_move rfl rfl) ?_
        obtain ⟨r20, hr21, hF⟩ := bsome hF
        refine TL.ge (j := 4) (t := 24) rfl rfl rfl hg19 rfl (eff_call rfl gf_52 rfl (W_spec_l01In hr21)) ?_
        rintro _ w22 ⟨rfl, hx23⟩
        have he24 : Ext w w22 := Ext.trans he15 hx23
        have hz25 := (hx23).size
        refine TL.gy (j := 4) (t := 24) rfl rfl rfl hg19 rfl (yld_not rfl rfl) ?_
        obtain rfl := Option.some.inj hF
        refine TL.yld rfl rfl (yld_pick_f rfl rfl hg19 rfl) ?_
        exact TL.nil fun a h => ⟨h.weaken ⟨rfl, rfl, rfl, rfl, rfl, rfl, trivial⟩, hx23⟩
    intro w26 hx27
    have he28 : Ext w w26 := Ext.trans he15 hx27
    have hz29 := (hx27).size
    refine TL.yld rfl rfl (yld_assign rfl rfl) ?_
    refine TL.done ?_
    refine NX.seq ?_
    refine WC.cond rfl ?_ ?_
    · intro hc30
      replace hF := bif_t hc30 hF
      refine WC.seq ?_
      refine WC.region ?_
      refine TL.yld rfl rfl (yld_assign rfl rfl) ?_
      refine TL.done ?_
      refine NX.seq ?_
      refine WC.ret' ?_
      refine NX.blk_r ?_
      refine NX.then_r ?_
      obtain rfl := Option.some.inj hF
      exact NX.end (rs := [.tmp 10]) (vs := [.int .i64 4]) rfl ⟨rfl, trivial⟩ ⟨_, rfl, rfl, he28⟩
    · intro hc31
      replace hF := bif_f hc31 hF
      refine WC.seq ?_
      refine WC.region ?_
      refine TL.yld rfl rfl (yld_move rfl rfl) ?_
      obtain ⟨r32, hr33, hF⟩ := bsome hF
      refine TL.eff rfl rfl (eff_call rfl gf_52 rfl (W_spec_l01In hr33)) ?_
      rintro _ w34 ⟨rfl, hx35⟩
      have he36 : Ext w w34 := Ext.trans he28 hx35
      have hz37 := (hx35).size
      refine TL.yld rfl rfl (yld_not rfl rfl) ?_
      refine TL.yld rfl rfl (yld_move rfl rfl) ?_
      obtain ⟨c38, hb39, hF⟩ := bsome hF
      refine TL.cut 4 [(0, v1), (1, .int .i64 a1_a), (3, .int .i64 a3_b), (38, .bool c38)] (fun w' => Ext w34 w') ?_ ?_
      · rcases Bool.eq_false_or_eq_true (!r32) with hg40 | hg40
        ·
          rw [hg40] at hb39; simp only [cond_true, cond_false] at hb39
          refine TL.gnu (j := 3) (t := 34) rfl rfl rfl hg40 rfl ?_
          refine TL.gnu (j := 3) (t := 34) rfl rfl rfl hg40 rfl ?_
          refine TL.gnu (j := 3) (t := 34) rfl rfl rfl hg40 rfl ?_
          obtain rfl := Option.some.inj hb39
          refine TL.yld rfl rfl (yld_pick_t rfl rfl hg40 rfl) ?_
          exact TL.nil fun a h => ⟨h.weaken ⟨rfl, rfl, rfl, rfl, trivial⟩, Ext.refl _⟩
        ·
          rw [hg40] at hb39; simp only [cond_true, cond_false] at hb39
          replace hF := hb39
          refine TL.gy (j := 3) (t := 34) rfl rfl rfl hg40 rfl (yld_move rfl rfl) ?_
          obtain ⟨r41, hr42, hF⟩ := bsome hF
          refine TL.ge (j := 3) (t := 34) rfl rfl rfl hg40 rfl (eff_call rfl gf_52 rfl (W_spec_l01In hr42)) ?_
          rintro _ w43 ⟨rfl, hx44⟩
          have he45 : Ext w w43 := Ext.trans he36 hx44
          have hz46 := (hx44).size
          refine TL.gy (j := 3) (t := 34) rfl rfl rfl hg40 rfl (yld_not rfl rfl) ?_
          obtain rfl := Option.some.inj hF
          refine TL.yld rfl rfl (yld_pick_f rfl rfl hg40 rfl) ?_
          exact TL.nil fun a h => ⟨h.weaken ⟨rfl, rfl, rfl, rfl, trivial⟩, hx44⟩
      intro w47 hx48
      have he49 : Ext w w47 := Ext.trans he36 hx48
      have hz50 := (hx48).size
      refine TL.yld rfl rfl (yld_assign rfl rfl) ?_
      refine TL.done ?_
      refine NX.seq ?_
      refine WC.cond rfl ?_ ?_
      · intro hc51
        replace hF := bif_t hc51 hF
        refine WC.seq ?_
        refine WC.region ?_
        refine TL.yld rfl rfl (yld_assign rfl rfl) ?_
        refine TL.done ?_
        refine NX.seq ?_
        refine WC.ret' ?_
        refine NX.blk_r ?_
        refine NX.then_r ?_
        obtain rfl := Option.some.inj hF
        exact NX.end (rs := [.tmp 10]) (vs := [.int .i64 2]) rfl ⟨rfl, trivial⟩ ⟨_, rfl, rfl, he49⟩
      · intro hc52
        replace hF := bif_f hc52 hF
        refine WC.seq ?_
        refine WC.region ?_
        refine TL.yld rfl rfl (yld_move rfl rfl) ?_
        refine TL.yld rfl rfl (yld_move rfl rfl) ?_
        obtain ⟨r53, hr54, hF⟩ := bsome hF
        refine TL.eff rfl rfl (eff_call rfl gf_94 rfl (W_spec_l14Root hr54 ((slRep.old ha2 he49 (Nat.le_refl _)).wide (Nat.le_refl _) (he49).size))) ?_
        rintro _ w55 ⟨rfl, hx56⟩
        have he57 : Ext w w55 := Ext.trans he49 hx56
        have hz58 := (hx56).size
        refine TL.yld rfl rfl (yld_move rfl rfl) ?_
        refine TL.yld rfl rfl (yld_move rfl rfl) ?_
        obtain ⟨r59, hr60, hF⟩ := bsome hF
        refine TL.eff rfl rfl (eff_call rfl gf_94 rfl (W_spec_l14Root hr60 ((slRep.old ha2 he57 (Nat.le_refl _)).wide (Nat.le_refl _) (he57).size))) ?_
        rintro _ w61 ⟨rfl, hx62⟩
        have he63 : Ext w w61 := Ext.trans he57 hx62
        have hz64 := (hx62).size
        refine TL.yld rfl rfl (yld_neq rfl rfl rfl) ?_
        refine TL.yld rfl rfl (yld_assign rfl rfl) ?_
        refine TL.done ?_
        refine NX.seq ?_
        refine WC.cond rfl ?_ ?_
        · intro hc65
          replace hF := bif_t hc65 hF
          refine WC.seq ?_
          refine WC.region ?_
          refine TL.yld rfl rfl (yld_assign rfl rfl) ?_
          refine TL.done ?_
          refine NX.seq ?_
          refine WC.ret' ?_
          refine NX.blk_r ?_
          refine NX.then_r ?_
          obtain rfl := Option.some.inj hF
          exact NX.end (rs := [.tmp 10]) (vs := [.int .i64 5]) rfl ⟨rfl, trivial⟩ ⟨_, rfl, rfl, he63⟩
        · intro hc66
          replace hF := bif_f hc66 hF
          refine WC.skip' ?_
          refine NX.blk_n ?_
          refine NX.seq ?_
          refine WC.seq ?_
          refine WC.region ?_
          refine TL.yld rfl rfl (yld_move rfl rfl) ?_
          refine TL.yld rfl rfl (yld_move rfl rfl) ?_
          refine TL.yld rfl rfl (yld_move rfl rfl) ?_
          obtain ⟨r67, hr68, hF⟩ := bsome hF
          refine TL.eff rfl rfl (eff_call rfl gf_95 rfl (W_spec_l14Hyper hr68 ((slRep.old ha2 he63 (Nat.le_refl _)).wide (Nat.le_refl _) (he63).size))) ?_
          rintro _ w69 ⟨rfl, hx70⟩
          have he71 : Ext w w69 := Ext.trans he63 hx70
          have hz72 := (hx70).size
          refine TL.yld rfl rfl (yld_assign rfl rfl) ?_
          refine TL.done ?_
          refine NX.seq ?_
          refine WC.seq ?_
          refine WC.seq ?_
          refine WC.region ?_
          refine TL.yld rfl rfl (yld_move rfl rfl) ?_
          refine TL.yld rfl rfl (yld_gtr rfl rfl rfl) ?_
          refine TL.yld rfl rfl (yld_move rfl rfl) ?_
          obtain ⟨c73, hb74, hF⟩ := bsome hF
          refine TL.cut 8 [(61, .bool c73)] (fun w' => Ext w69 w') ?_ ?_
          · rcases Bool.eq_false_or_eq_true (decide (r67 > 100000000)) with hg75 | hg75
            ·
              rw [hg75] at hb74; simp only [cond_true, cond_false] at hb74
              refine TL.gnu (j := 2) (t := 53) rfl rfl rfl hg75 rfl ?_
              refine TL.gnu (j := 2) (t := 53) rfl rfl rfl hg75 rfl ?_
              refine TL.gnu (j := 2) (t := 53) rfl rfl rfl hg75 rfl ?_
              refine TL.gnu (j := 2) (t := 53) rfl rfl rfl hg75 rfl ?_
              refine TL.gnu (j := 2) (t := 53) rfl rfl rfl hg75 rfl ?_
              refine TL.gnu (j := 2) (t := 53) rfl rfl rfl hg75 rfl ?_
              refine TL.gnu (j := 2) (t := 53) rfl rfl rfl hg75 rfl ?_
              obtain rfl := Option.some.inj hb74
              refine TL.yld rfl rfl (yld_pick_t rfl rfl hg75 rfl) ?_
              exact TL.nil fun a h => ⟨h.weaken ⟨rfl, trivial⟩, Ext.refl _⟩
            ·
              rw [hg75] at hb74; simp only [cond_true, cond_false] at hb74
              replace hF := hb74
              refine TL.gy (j := 2) (t := 53) rfl rfl rfl hg75 rfl (yld_move rfl rfl) ?_
              refine TL.gy (j := 2) (t := 53) rfl rfl rfl hg75 rfl (yld_move rfl rfl) ?_
              refine TL.gy (j := 2) (t := 53) rfl rfl rfl hg75 rfl (yld_move rfl rfl) ?_
              obtain ⟨r76, hr77, hF⟩ := bsome hF
              refine TL.ge (j := 2) (t := 53) rfl rfl rfl hg75 rfl (eff_call rfl gf_51 rfl (W_spec_l14Of hr77 ((slRep.old ha2 he71 (Nat.le_refl _)).wide (Nat.le_refl _) (he71).size))) ?_
              rintro _ w78 ⟨rfl, hx79⟩
              have he80 : Ext w w78 := Ext.trans he71 hx79
              have hz81 := (hx79).size
              refine TL.gy (j := 2) (t := 53) rfl rfl rfl hg75 rfl (yld_field1 rfl ft_79_0 ag_2 rfl rfl) ?_
              obtain ⟨hn82, hF⟩ := nzero hF
              refine TL.gy (j := 2) (t := 53) rfl rfl rfl hg75 rfl (yld_quo rfl rfl rfl hn82) ?_
              refine TL.gy (j := 2) (t := 53) rfl rfl rfl hg75 rfl (yld_gtr rfl rfl rfl) ?_
              obtain rfl := Option.some.inj hF
              refine TL.yld rfl rfl (yld_pick_f rfl rfl hg75 rfl) ?_
              exact TL.nil fun a h => ⟨h.weaken ⟨rfl, trivial⟩, hx79⟩
          intro w83 hx84
          have he85 : Ext w w83 := Ext.trans he71 hx84
          have hz86 := (hx84).size
          refine TL.done ?_
          refine NX.seq ?_
          refine WC.cond rfl ?_ ?_
          · intro hc87
            replace hF := bif_t hc87 hF
            refine WC.seq ?_
            refine WC.region ?_
            refine TL.yld rfl rfl (yld_assign rfl rfl) ?_
            refine TL.done ?_
            refine NX.seq ?_
            refine WC.ret' ?_
            refine NX.then_r ?_
            obtain rfl := Option.some.inj hF
            exact NX.end (rs := [.tmp 10]) (vs := [.int .i64 3]) rfl ⟨rfl, trivial⟩ ⟨_, rfl, rfl, he85⟩
          · intro hc88
            replace hF := bif_f hc88 hF
            refine WC.skip' ?_
            refine NX.seq ?_
            refine WC.seq ?_
            refine WC.region ?_
            refine TL.yld rfl rfl (yld_assign rfl rfl) ?_
            refine TL.done ?_
            refine NX.seq ?_
            refine WC.ret' ?_
            obtain rfl := Option.some.inj hF
            exact NX.end (rs := [.tmp 10]) (vs := [.int .i64 0]) rfl ⟨rfl, trivial⟩ ⟨_, rfl, rfl, he85⟩

-- loop.example/g00861/spec.l14Edge
def F_spec_l14Edge (n : Nat) (a0_w : S_l14Wave) (a1_edge : Int) : Option Int := (bif (a1_edge == 0) then (some a0_w.rise_) else (some a0_w.fall_))
set_option maxHeartbeats 40000000 in
theorem W_spec_l14Edge {n : Nat} {a0_w : S_l14Wave} {a1_edge : Int} {r : Int} {w : World} (hF : F_spec_l14Edge n a0_w a1_edge = some r) :
    Calls Tryd.prog 132 [.agg #[.int .i64 a0_w.period_, .int .i64 a0_w.rise_, .int .i64 a0_w.fall_], .int .i64 a1_edge].toArray w (Ret fun u w2 => u = .int .i64 r ∧ Ext w w2) := by
  refine calls_of Tryd.func132 rfl Tryd.ntmps132 ?_
  have he0 : Ext w w := Ext.refl w
  unfold F_spec_l14Edge at hF
  refine WC.seq ?_
  refine WC.region ?_
  refine TL.eff rfl rfl (eff_box rfl rfl) ?_
  rintro _ w2 ⟨b1, rfl, hn3⟩
  obtain ⟨hn3e, hn3s, hn3x, hb4⟩ := hn3
  have hb4 : Box w2 b1 [.int .i64 a0_w.period_, .int .i64 a0_w.rise_, .int .i64 a0_w.fall_] 79 := hb4
  have he6 : Ext w w2 := Ext.trans he0 hn3x
  have hz7 := (hn3x).size
  have hlo5 : w.heap.size ≤ b1 := by rw [hn3e]; exact (he0).size
  refine TL.yld rfl rfl (yld_assign rfl rfl) ?_
  refine TL.done ?_
  refine NX.seq ?_
  refine WC.seq ?_
  refine WC.seq ?_
  refine WC.region ?_
  refine TL.yld rfl rfl (yld_move rfl rfl) ?_
  refine TL.yld rfl rfl (yld_eql rfl rfl rfl) ?_
  refine TL.done ?_
  refine NX.seq ?_
  refine WC.cond rfl ?_ ?_
  · intro hc8
    replace hF := bif_t hc8 hF
    refine WC.seq ?_
    refine WC.region ?_
    refine TL.yld rfl rfl (yld_fieldAddr rfl fo_79_1 rfl) ?_
    refine TL.yld rfl rfl (yld_load1 1 rfl ag_2 rfl (Box.cells hb4) rfl rfl) ?_
    refine TL.yld rfl rfl (yld_assign rfl rfl) ?_
    refine TL.done ?_
    refine NX.seq ?_
    refine WC.ret' ?_
    refine NX.then_r ?_
    obtain rfl := Option.some.inj hF
    exact NX.end (rs := [.tmp 4]) (vs := [.int .i64 a0_w.rise_]) rfl ⟨rfl, trivial⟩ ⟨_, rfl, rfl, he6⟩
  · intro hc9
    replace hF := bif_f hc9 hF
    refine WC.skip' ?_
    refine NX.seq ?_
    refine WC.seq ?_
    refine WC.region ?_
    refine TL.yld rfl rfl (yld_fieldAddr rfl fo_79_2 rfl) ?_
    refine TL.yld rfl rfl (yld_load1 2 rfl ag_2 rfl (Box.cells hb4) rfl rfl) ?_
    refine TL.yld rfl rfl (yld_assign rfl rfl) ?_
    refine TL.done ?_
    refine NX.seq ?_
    refine WC.ret' ?_
    obtain rfl := Option.some.inj hF
    exact NX.end (rs := [.tmp 4]) (vs := [.int .i64 a0_w.fall_]) rfl ⟨rfl, trivial⟩ ⟨_, rfl, rfl, he6⟩

-- loop.example/g00861/spec.l14After
def F_spec_l14After (n : Nat) (a0_w : S_l14Wave) (a1_edge : Int) (a2_time : Int) : Option Int := (Option.bind (F_spec_l14Edge n a0_w a1_edge) fun r8 => (bif (a0_w.period_ == 0) then none else (bif (a0_w.period_ == 0) then none else (some (IntKind.wrap IntKind.i64 (a2_time + (Int.tmod (IntKind.wrap IntKind.i64 ((Int.tmod (IntKind.wrap IntKind.i64 (r8 - a2_time)) a0_w.period_) + a0_w.period_)) a0_w.period_)))))))
set_option maxHeartbeats 40000000 in
theorem W_spec_l14After {n : Nat} {a0_w : S_l14Wave} {a1_edge : Int} {a2_time : Int} {r : Int} {w : World} (hF : F_spec_l14After n a0_w a1_edge a2_time = some r) :
    Calls Tryd.prog 96 [.agg #[.int .i64 a0_w.period_, .int .i64 a0_w.rise_, .int .i64 a0_w.fall_], .int .i64 a1_edge, .int .i64 a2_time].toArray w (Ret fun u w2 => u = .int .i64 r ∧ Ext w w2) := by
  refine calls_of Tryd.func96 rfl Tryd.ntmps96 ?_
  have he0 : Ext w w := Ext.refl w
  unfold F_spec_l14After at hF
  refine WC.seq ?_
  refine WC.region ?_
  refine TL.eff rfl rfl (eff_box rfl rfl) ?_
  rintro _ w2 ⟨b1, rfl, hn3⟩
  obtain ⟨hn3e, hn3s, hn3x, hb4⟩ := hn3
  have hb4 : Box w2 b1 [.int .i64 a0_w.period_, .int .i64 a0_w.rise_, .int .i64 a0_w.fall_] 79 := hb4
  have he6 : Ext w w2 := Ext.trans he0 hn3x
  have hz7 := (hn3x).size
  have hlo5 : w.heap.size ≤ b1 := by rw [hn3e]; exact (he0).size
  refine TL.yld rfl rfl (yld_assign rfl rfl) ?_
  refine TL.done ?_
  refine NX.seq ?_
  refine WC.seq ?_
  refine WC.quiet Tryd.hm (by kernel_rfl) ?_
  refine QL.yld rfl rfl (Yld.qui (yld_move rfl rfl)) ?_
  refine QL.yld rfl rfl (Yld.qui (yld_loadN (us := [.int .i64 a0_w.period_, .int .i64 a0_w.rise_, .int .i64 a0_w.fall_]) rfl ag_79 rfl (Box.cells hb4) cn_79)) ?_
  refine QL.yld rfl rfl (Yld.qui (yld_move rfl rfl)) ?_
  obtain ⟨r8, hr9, hF⟩ := bsome hF
  refine QL.yld rfl rfl (qui_call rfl gf_132 rfl fun w' hw' => W_spec_l14Edge hr9) ?_
  refine QL.yld rfl rfl (Yld.qui (yld_move rfl rfl)) ?_
  refine QL.yld rfl rfl (Yld.qui (yld_sub rfl rfl rfl)) ?_
  refine QL.yld rfl rfl (Yld.qui (yld_fieldAddr rfl fo_79_0 rfl)) ?_
  refine QL.yld rfl rfl (Yld.qui (yld_load1 0 rfl ag_2 rfl (Box.cells hb4) rfl rfl)) ?_
  obtain ⟨hn10, hF⟩ := nzero hF
  refine QL.yld rfl rfl (Yld.qui (yld_rem rfl rfl rfl hn10)) ?_
  refine QL.yld rfl rfl (Yld.qui (yld_fieldAddr rfl fo_79_0 rfl)) ?_
  refine QL.yld rfl rfl (Yld.qui (yld_load1 0 rfl ag_2 rfl (Box.cells hb4) rfl rfl)) ?_
  refine QL.yld rfl rfl (Yld.qui (yld_add rfl rfl rfl)) ?_
  refine QL.yld rfl rfl (Yld.qui (yld_fieldAddr rfl fo_79_0 rfl)) ?_
  refine QL.yld rfl rfl (Yld.qui (yld_load1 0 rfl ag_2 rfl (Box.cells hb4) rfl rfl)) ?_
  obtain ⟨hn11, hF⟩ := nzero hF
  refine QL.yld rfl rfl (Yld.qui (yld_rem rfl rfl rfl hn11)) ?_
  refine QL.yld rfl rfl (Yld.qui (yld_add rfl rfl rfl)) ?_
  refine QL.yld rfl rfl (Yld.qui (yld_assign rfl rfl)) ?_
  refine QL.done fun w12 hx13 => ?_
  have he14 : Ext w w12 := Ext.trans he6 hx13
  have hb4 := Box.ext hb4 hx13
  have hz15 := (hx13).size
  refine NX.seq ?_
  refine WC.ret' ?_
  obtain rfl := Option.some.inj hF
  exact NX.end (rs := [.tmp 6]) (vs := [.int .i64 (IntKind.wrap IntKind.i64 (a2_time + (Int.tmod (IntKind.wrap IntKind.i64 ((Int.tmod (IntKind.wrap IntKind.i64 (r8 - a2_time)) a0_w.period_) + a0_w.period_)) a0_w.period_)))]) rfl ⟨rfl, trivial⟩ ⟨_, rfl, rfl, he14⟩

-- loop.example/g00861/spec.l15Pairs
def F_spec_l15Pairs_L1 (n : Nat) (a4_eb : Int) (r16 : Int) (r22 : S_l14Wave) (r28 : S_l14Wave) (k0 : (List (List Int)) → Int → Option (List (List Int))) : Nat → (List (List Int)) → Int → Option (List (List Int))
  | 0 => fun _ _ => none
  | m + 1 => fun l66 i70 => (bif decide (i70 < r16) then (Option.bind (F_spec_l14After n r28 a4_eb (IntKind.wrap IntKind.i64 (i70 + 1))) fun r76 => (Option.bind (appN l66 ([[i70, r76]]) 24) fun z108 => (F_spec_l15Pairs_L1 n a4_eb r16 r22 r28 k0 m z108 (IntKind.wrap IntKind.i64 (i70 + r22.period_))))) else (k0 l66 i70))
theorem F_spec_l15Pairs_L1_z (n : Nat) (a4_eb : Int) (r16 : Int) (r22 : S_l14Wave) (r28 : S_l14Wave) (k0 : (List (List Int)) → Int → Option (List (List Int))) (l66 : List (List Int)) (i70 : Int) : F_spec_l15Pairs_L1 n a4_eb r16 r22 r28 k0 0 l66 i70 = none := rfl
theorem F_spec_l15Pairs_L1_s (m : Nat) (n : Nat) (a4_eb : Int) (r16 : Int) (r22 : S_l14Wave) (r28 : S_l14Wave) (k0 : (List (List Int)) → Int → Option (List (List Int))) (l66 : List (List Int)) (i70 : Int) : F_spec_l15Pairs_L1 n a4_eb r16 r22 r28 k0 (m + 1) l66 i70 = (bif decide (i70 < r16) then (Option.bind (F_spec_l14After n r28 a4_eb (IntKind.wrap IntKind.i64 (i70 + 1))) fun r76 => (Option.bind (appN l66 ([[i70, r76]]) 24) fun z108 => (F_spec_l15Pairs_L1 n a4_eb r16 r22 r28 k0 m z108 (IntKind.wrap IntKind.i64 (i70 + r22.period_))))) else (k0 l66 i70)) := rfl

def F_spec_l15Pairs (n : Nat) (a0_list : List S_Clock) (a1_a : Int) (a2_ea : Int) (a3_b : Int) (a4_eb : Int) : Option (List (List Int)) := (Option.bind (F_spec_l14Hyper n a0_list a1_a a3_b) fun r16 => (Option.bind (F_spec_l14Of n a0_list a1_a) fun r22 => (Option.bind (F_spec_l14Of n a0_list a3_b) fun r28 => (Option.bind (F_spec_l14After n r22 a2_ea 0) fun r58 => (F_spec_l15Pairs_L1 n a4_eb r16 r22 r28 (fun l66 i70 => (some l66)) n (([] : List (List Int))) r58)))))
set_option maxHeartbeats 40000000 in
theorem W_spec_l15Pairs {n : Nat} {a0_list : List S_Clock} {a1_a : Int} {a2_ea : Int} {a3_b : Int} {a4_eb : Int} {r : List (List Int)} {w : World} {v1 : Value} (hF : F_spec_l15Pairs n a0_list a1_a a2_ea a3_b a4_eb = some r) (ha2 : slRep C_Clock w (Iv 0 w.heap.size) a0_list v1) :
    Calls Tryd.prog 48 [v1, .int .i64 a1_a, .int .i64 a2_ea, .int .i64 a3_b, .int .i64 a4_eb].toArray w (Ret fun u w2 => ∃ v0_0, u = v0_0 ∧ ownR (cSl (cInt .i64)) w2 w.heap.size (SX w.heap.size w2.heap.size v0_0) 42 r v0_0 ∧ Ext w w2) := by
  refine calls_of Tryd.func48 rfl Tryd.ntmps48 ?_
  have he0 : Ext w w := Ext.refl w
  unfold F_spec_l15Pairs at hF
  refine WC.seq ?_
  refine WC.region ?_
  refine TL.yld rfl rfl (yld_assign rfl rfl) ?_
  refine TL.done ?_
  refine NX.seq ?_
  refine WC.seq ?_
  refine WC.region ?_
  refine TL.eff rfl rfl (eff_buildSlice (c := (cSl (cInt .i64))) (xs := ([] : List (List Int))) (S := (Iv w.heap.size w.heap.size)) (uss := []) (out := []) rfl Tryd.underlying38 in_42 rfl rfl (fillL_all [] rfl rfl rfl) rfl rfl rfl rfl (one_rep (uss := []) (show reps _ _ _ _ _ from trivial) rfl) (fun k h => by have := h.2; omega) rfl) ?_
  rintro v3 w4 ⟨g5, hv6, hg7, hz8, hx9, hs10⟩
  have he11 : Ext w w4 := Ext.trans he0 hx9
  have hz12 := (hx9).size
  have hlo13 : w.heap.size ≤ g5 := by rw [hg7]; exact (he0).size
  have hs10 := ownR.litN hs10 hv6 (by omega) (by omega)
  have hbd14 := bd_of hv6
  clear hv6
  refine TL.yld rfl rfl (yld_assign rfl rfl) ?_
  refine TL.done ?_
  refine NX.seq ?_
  refine WC.seq ?_
  refine WC.region ?_
  refine TL.yld rfl rfl (yld_move rfl rfl) ?_
  refine TL.yld rfl rfl (yld_move rfl rfl) ?_
  refine TL.yld rfl rfl (yld_move rfl rfl) ?_
  obtain ⟨r16, hr17, hF⟩ := bsome hF
  refine TL.eff rfl rfl (eff_call rfl gf_95 rfl (W_spec_l14Hyper hr17 ((slRep.old ha2 he11 (Nat.le_refl _)).wide (Nat.le_refl _) (he11).size))) ?_
  rintro _ w18 ⟨rfl, hx19⟩
  have he20 : Ext w w18 := Ext.trans he11 hx19
  have hs10 := ownR.extN hs10 hx19 (by omega)
  have hz21 := (hx19).size
  refine TL.yld rfl rfl (yld_assign rfl rfl) ?_
  refine TL.done ?_
  refine NX.seq ?_
  refine WC.seq ?_
  refine WC.region ?_
  refine TL.yld rfl rfl (yld_move rfl rfl) ?_
  refine TL.yld rfl rfl (yld_move rfl rfl) ?_
  obtain ⟨r22, hr23, hF⟩ := bsome hF
  refine TL.eff rfl rfl (eff_call rfl gf_51 rfl (W_spec_l14Of hr23 ((slRep.old ha2 he20 (Nat.le_refl _)).wide (Nat.le_refl _) (he20).size))) ?_
  rintro _ w24 ⟨rfl, hx25⟩
  have he26 : Ext w w24 := Ext.trans he20 hx25
  have hs10 := ownR.extN hs10 hx25 (by omega)
  have hz27 := (hx25).size
  refine TL.yld rfl rfl (yld_move rfl rfl) ?_
  refine TL.yld rfl rfl (yld_move rfl rfl) ?_
  obtain ⟨r28, hr29, hF⟩ := bsome hF
  refine TL.eff rfl rfl (eff_call rfl gf_51 rfl (W_spec_l14Of hr29 ((slRep.old ha2 he26 (Nat.le_refl _)).wide (Nat.le_refl _) (he26).size))) ?_
  rintro _ w30 ⟨rfl, hx31⟩
  have he32 : Ext w w30 := Ext.trans he26 hx31
  have hs10 := ownR.extN hs10 hx31 (by omega)
  have hz33 := (hx31).size
  refine TL.eff rfl rfl (eff_alloc rfl zn_79) ?_
  rintro _ w35 ⟨b34, rfl, hn36⟩
  obtain ⟨hn36e, hn36s, hn36x, hb37⟩ := hn36
  have hb37 : Box w35 b34 [.int .i64 0, .int .i64 0, .int .i64 0] 79 := hb37
  have he39 : Ext w w35 := Ext.trans he32 hn36x
  have hs10 := ownR.extN hs10 hn36x (by omega)
  have hz40 := (hn36x).size
  have hlo38 : w.heap.size ≤ b34 := by rw [hn36e]; exact (he32).size
  refine TL.eff rfl rfl (eff_alloc rfl zn_79) ?_
  rintro _ w42 ⟨b41, rfl, hn43⟩
  obtain ⟨hn43e, hn43s, hn43x, hb44⟩ := hn43
  have hb44 : Box w42 b41 [.int .i64 0, .int .i64 0, .int .i64 0] 79 := hb44
  have he46 : Ext w w42 := Ext.trans he39 hn43x
  have hb37 := Box.ext hb37 hn43x
  have hs10 := ownR.extN hs10 hn43x (by omega)
  have hz47 := (hn43x).size
  have hlo45 : w.heap.size ≤ b41 := by rw [hn43e]; exact (he39).size
  refine TL.eff rfl rfl (eff_store rfl rfl rfl hb37 cn_79 rfl rfl) ?_
  rintro _ w48 ⟨hu49, hb50⟩
  have he51 : Ext w w48 := Below.trans he46 (Upd.below hu49 (by omega))
  have hb44 := Box.upd hb44 hu49 (by omega)
  have hs10 := ownR.updN hs10 hu49 (fun g hg => by have := hbd14 g hg; omega) (by omega)
  have hz52 := (hu49).size
  have hb37 : Box w48 b34 [.int .i64 r22.period_, .int .i64 r22.rise_, .int .i64 r22.fall_] 79 := hb50
  refine TL.eff rfl rfl (eff_store rfl rfl rfl hb44 cn_79 rfl rfl) ?_
  rintro _ w53 ⟨hu54, hb55⟩
  have he56 : Ext w w53 := Below.trans he51 (Upd.below hu54 (by omega))
  have hb37 := Box.upd hb37 hu54 (by omega)
  have hs10 := ownR.updN hs10 hu54 (fun g hg => by have := hbd14 g hg; omega) (by omega)
  have hz57 := (hu54).size
  have hb44 : Box w53 b41 [.int .i64 r28.period_, .int .i64 r28.rise_, .int .i64 r28.fall_] 79 := hb55
  refine TL.done ?_
  refine NX.seq ?_
  refine WC.seq ?_
  refine WC.seq ?_
  refine WC.region ?_
  refine TL.yld rfl rfl (yld_loadN (us := [.int .i64 r22.period_, .int .i64 r22.rise_, .int .i64 r22.fall_]) rfl ag_79 rfl (Box.cells hb37) cn_79) ?_
  refine TL.yld rfl rfl (yld_move rfl rfl) ?_
  obtain ⟨r58, hr59, hF⟩ := bsome hF
  refine TL.eff rfl rfl (eff_call rfl gf_96 rfl (W_spec_l14After hr59)) ?_
  rintro _ w60 ⟨rfl, hx61⟩
  have he62 : Ext w w60 := Ext.trans he56 hx61
  have hb37 := Box.ext hb37 hx61
  have hb44 := Box.ext hb44 hx61
  have hs10 := ownR.extN hs10 hx61 (by omega)
  have hz63 := (hx61).size
  refine TL.yld rfl rfl (yld_assign rfl rfl) ?_
  refine TL.done ?_
  refine NX.seq ?_
  refine WC.block ?_
  refine WC.loop (fun m75 a wl => ∃ (l66 : List (List Int)) (v67 : Value) (i70 : Int), Kn 48 [(4, .int .i64 a4_eb), (11, v67), (12, .int .i64 r16), (13, .pointer (some ⟨b34, 0, none⟩)), (14, .pointer (some ⟨b41, 0, none⟩)), (15, .int .i64 i70)] a ∧ Ext w wl ∧ w60.heap.size ≤ wl.heap.size ∧ Box wl b34 [.int .i64 r22.period_, .int .i64 r22.rise_, .int .i64 r22.fall_] 79 ∧ Box wl b41 [.int .i64 r28.period_, .int .i64 r28.rise_, .int .i64 r28.fall_] 79 ∧ ownR (cSl (cInt .i64)) wl (w.heap.size) (SX (w.heap.size) wl.heap.size v67) 42 l66 v67 ∧ (∀ q, v67.ownBlock = some q → w.heap.size ≤ q ∧ q < wl.heap.size) ∧ (∀ g, v67.ownBlock = some g → g ≠ b34) ∧ (∀ g, v67.ownBlock = some g → g ≠ b41) ∧ F_spec_l15Pairs_L1 n a4_eb r16 r22 r28 (fun l66 i70 => (some l66)) m75 l66 i70 = some r) n ?_ ?_
  · intro a hK; exact ⟨(([] : List (List Int))), v3, r58, hK.weaken ⟨rfl, rfl, rfl, rfl, rfl, rfl, trivial⟩, he62, Nat.le_refl _, hb37, hb44, (ownR.wideN hs10 (by omega)), (fun g hg => by have := hbd14 g hg; omega), (fun g hg => by have := hbd14 g hg; omega), (fun g hg => by have := hbd14 g hg; omega), hF⟩
  · rintro m75 a w64 ⟨l66, v67, i70, hK, he65, hz76, hb71, hb72, hs68, hbd69, hp73, hp74, hF⟩
    revert hK; revert a; refine (?_ : WC _ _ _ _ _ _)
    cases m75 with
    | zero => rw [F_spec_l15Pairs_L1_z] at hF; cases hF
    | succ m75 =>
      rw [F_spec_l15Pairs_L1_s] at hF
      refine WC.seq ?_
      refine WC.seq ?_
      refine WC.region ?_
      refine TL.yld rfl rfl (yld_move rfl rfl) ?_
      refine TL.yld rfl rfl (yld_move rfl rfl) ?_
      refine TL.yld rfl rfl (yld_lss rfl rfl rfl) ?_
      refine TL.done ?_
      refine NX.seq ?_
      refine WC.cond rfl ?_ ?_
      · intro hc77
        replace hF := bif_t hc77 hF
        refine WC.skip' ?_
        refine NX.seq ?_
        refine WC.seq ?_
        refine WC.block ?_
        refine WC.region ?_
        refine TL.yld rfl rfl (yld_move rfl rfl) ?_
        refine TL.yld rfl rfl (yld_move rfl rfl) ?_
        refine TL.yld rfl rfl (yld_loadN (us := [.int .i64 r28.period_, .int .i64 r28.rise_, .int .i64 r28.fall_]) rfl ag_79 rfl (Box.cells hb72) cn_79) ?_
        refine TL.yld rfl rfl (yld_move rfl rfl) ?_
        refine TL.yld rfl rfl (yld_move rfl rfl) ?_
        refine TL.yld rfl rfl (yld_add rfl rfl rfl) ?_
        obtain ⟨r78, hr79, hF⟩ := bsome hF
        refine TL.eff rfl rfl (eff_call rfl gf_96 rfl (W_spec_l14After hr79)) ?_
        rintro _ w80 ⟨rfl, hx81⟩
        have he82 : Ext w w80 := Ext.trans he65 hx81
        have hb71 := Box.ext hb71 hx81
        have hb72 := Box.ext hb72 hx81
        have hs68 := ownR.extN hs68 hx81 (by omega)
        have hz83 := (hx81).size
        refine TL.eff rfl rfl (eff_buildSlice (c := (cInt .i64)) (xs := [i70, r78]) (S := (Iv 0 0)) (uss := [(0, [.int .i64 i70]), (1, [.int .i64 r78])]) (out := [.int .i64 i70, .int .i64 r78]) rfl Tryd.underlying42 in_2 rfl rfl (fillL_all [[.int .i64 i70], [.int .i64 r78]] rfl rfl rfl) rfl rfl rfl rfl (one_rep (uss := [[.int .i64 i70], [.int .i64 r78]]) (show reps _ _ _ _ _ from ⟨rfl, rfl, trivial⟩) rfl) (fun k h => by have := h.2; omega) rfl) ?_
        rintro v84 w85 ⟨g86, hv87, hg88, hz89, hx90, hs91⟩
        have he92 : Ext w w85 := Ext.trans he82 hx90
        have hb71 := Box.ext hb71 hx90
        have hb72 := Box.ext hb72 hx90
        have hs68 := ownR.extN hs68 hx90 (by omega)
        have hz93 := (hx90).size
        have hlo94 : w.heap.size ≤ g86 := by rw [hg88]; exact (he82).size
        have hbd95 := bd_of hv87
        clear hv87
        refine TL.eff rfl rfl (eff_buildSlice (c := (cSl (cInt .i64))) (xs := [[i70, r78]]) (S := (Iv g86 w85.heap.size)) (uss := [(0, [v84])]) (out := [v84]) rfl Tryd.underlying38 in_42 rfl (pt_cons (slRep.cl (ownR.slf hs91 (Nat.le_refl _) (Nat.le_refl _))) rfl) (fillL_all [[v84]] rfl rfl rfl) rfl rfl rfl rfl (one_rep (uss := [[v84]]) (show reps _ _ _ _ _ from ⟨⟨_, rfl, ((ownR.slf hs91 (Nat.le_refl _) (Nat.le_refl _)).wide (by omega) (by omega))⟩, trivial⟩) rfl) (fun k h => by have := h.2; omega) rfl) ?_
        rintro v97 w98 ⟨g99, hv100, hg101, hz102, hx103, hs104⟩
        have he105 : Ext w w98 := Ext.trans he92 hx103
        have hb71 := Box.ext hb71 hx103
        have hb72 := Box.ext hb72 hx103
        have hs68 := ownR.extN hs68 hx103 (by omega)
        have hs91 := ownR.ext hs91 hx103
        have hz106 := (hx103).size
        have hlo107 : w.heap.size ≤ g99 := by rw [hg101]; exact (he92).size
        have hs104 := ownR.litN hs104 hv100 (by omega) (by omega)
        have hbd108 := bd_of hv100
        clear hv100
        obtain ⟨z110, ha111, hF⟩ := bsome hF
        refine TL.eff rfl rfl (eff_appendN (c := (cSl (cInt .i64))) rfl Tryd.underlying38 in_42 rfl rfl rfl rfl rfl hs68 (by omega) (by omega) (ownR.slN hs104 (Nat.le_refl _) (Nat.le_refl _) (by omega)) (by omega) (by omega) (fun g hg => by have := hbd69 g hg; omega) ha111) ?_
        rintro v112 w113 ⟨hs114, hgr115⟩
        have he117 : Ext w w113 := Below.trans he105 (Grew.low hgr115 (fun g hg => by have := hbd69 g hg; omega) (he105).size)
        have hp118 : ∀ g, v112.ownBlock = some g → g ≠ b34 := Grew.sepP (p := fun g => g ≠ b34) hgr115 hp73 (fun g hg => by omega)
        have hb71 := Grew.box hgr115 hb71 hp73
        have hp119 : ∀ g, v112.ownBlock = some g → g ≠ b41 := Grew.sepP (p := fun g => g ≠ b41) hgr115 hp74 (fun g hg => by omega)
        have hb72 := Grew.box hgr115 hb72 hp74
        have hp120 : ∀ g q, v67.ownBlock = some g → v84.ownBlock = some q → g ≠ q := (fun g q hg hq => by have := hbd69 g hg; have := hbd95 q hq; omega)
        have hp121 : ∀ g q, v112.ownBlock = some g → v84.ownBlock = some q → g ≠ q := fun g q hg hq => Grew.sepP (p := fun g => ∀ q, v84.ownBlock = some q → g ≠ q) hgr115 (fun g hg q hq => (hp120) g q hg hq) (fun g hg q hq => by have := hbd95 q hq; omega) g hg q hq
        have hs91 := Grew.ownF hgr115 hs91 hp120
        have hp122 : ∀ g q, v67.ownBlock = some g → v97.ownBlock = some q → g ≠ q := (fun g q hg hq => by have := hbd69 g hg; have := hbd108 q hq; omega)
        have hp123 : ∀ g q, v112.ownBlock = some g → v97.ownBlock = some q → g ≠ q := fun g q hg hq => Grew.sepP (p := fun g => ∀ q, v97.ownBlock = some q → g ≠ q) hgr115 (fun g hg q hq => (hp122) g q hg hq) (fun g hg q hq => by have := hbd108 q hq; omega) g hg q hq
        have hs104 := Grew.ownN hgr115 hs104 hp122 (by omega) (fun g hg => by have := hbd69 g hg; omega)
        have hz124 := (hgr115).1.size
        have hbd125 : ∀ g, v112.ownBlock = some g → w.heap.size ≤ g ∧ g < w113.heap.size := Grew.bd hgr115 hs114 (fun g hg => ⟨by have := hbd69 g hg; omega, (hbd69 g hg).2⟩) (by omega) (by omega)
        refine TL.yld rfl rfl (yld_assign rfl rfl) ?_
        refine TL.done ?_
        refine NX.blk_n ?_
        refine NX.seq ?_
        refine WC.region ?_
        refine TL.yld rfl rfl (yld_move rfl rfl) ?_
        refine TL.yld rfl rfl (yld_fieldAddr rfl fo_79_0 rfl) ?_
        refine TL.yld rfl rfl (yld_load1 0 rfl ag_2 rfl (Box.cells hb71) rfl rfl) ?_
        refine TL.yld rfl rfl (yld_add rfl rfl rfl) ?_
        refine TL.yld rfl rfl (yld_assign rfl rfl) ?_
        refine TL.done ?_
        refine NX.then_n ?_
        intro a hK; exact ⟨m75, Nat.lt_succ_self m75, z110, v112, (IntKind.wrap IntKind.i64 (i70 + r22.period_)), hK.weaken ⟨rfl, rfl, rfl, rfl, rfl, rfl, trivial⟩, he117, (by omega), hb71, hb72, (ownR.wideN hs114 (by omega)), (fun g hg => by have := hbd125 g hg; omega), hp118, hp119, hF⟩
      · intro hc126
        replace hF := bif_f hc126 hF
        refine WC.exit' ?_
        refine NX.then_e ?_
        refine NX.then_e ?_
        refine NX.blk_hit ?_
        refine NX.seq ?_
        refine WC.seq ?_
        refine WC.region ?_
        refine TL.yld rfl rfl (yld_move rfl rfl) ?_
        refine TL.yld rfl rfl (yld_assign rfl rfl) ?_
        refine TL.done ?_
        refine NX.seq ?_
        refine WC.ret' ?_
        obtain rfl := Option.some.inj hF
        exact NX.end (rs := [.tmp 10]) (vs := [v67]) rfl ⟨rfl, trivial⟩ ⟨_, rfl, _, rfl, ownR.baseN (ownR.wideN hs68 (by omega)) (by omega), he65⟩

-- loop.example/g00861/spec.SetupSeparation
def F_spec_SetupSeparation_L1 (r11 : List (List Int)) (k0 : Int → Int → Option (Int × Int)) : Nat → Int → Int → Option (Int × Int)
  | 0 => fun _ _ => none
  | m + 1 => fun i63 i64 => (bif decide (i64 < (r11.length : Int)) then (Option.bind (getI r11 i64) fun x67 => (Option.bind (getI x67 1) fun x77 => (Option.bind (getI r11 i64) fun x85 => (Option.bind (getI x85 0) fun x95 => (F_spec_SetupSeparation_L1 r11 k0 m (min i63 (IntKind.wrap IntKind.i64 (x77 - x95))) (IntKind.wrap IntKind.i64 (i64 + 1))))))) else (k0 i63 i64))
theorem F_spec_SetupSeparation_L1_z (r11 : List (List Int)) (k0 : Int → Int → Option (Int × Int)) (i63 : Int) (i64 : Int) : F_spec_SetupSeparation_L1 r11 k0 0 i63 i64 = none := rfl
theorem F_spec_SetupSeparation_L1_s (m : Nat) (r11 : List (List Int)) (k0 : Int → Int → Option (Int × Int)) (i63 : Int) (i64 : Int) : F_spec_SetupSeparation_L1 r11 k0 (m + 1) i63 i64 = (bif decide (i64 < (r11.length : Int)) then (Option.bind (getI r11 i64) fun x67 => (Option.bind (getI x67 1) fun x77 => (Option.bind (getI r11 i64) fun x85 => (Option.bind (getI x85 0) fun x95 => (F_spec_SetupSeparation_L1 r11 k0 m (min i63 (IntKind.wrap IntKind.i64 (x77 - x95))) (IntKind.wrap IntKind.i64 (i64 + 1))))))) else (k0 i63 i64)) := rfl

def F_spec_SetupSeparation (n : Nat) (a0_list : List S_Clock) (a1_a : Int) (a2_ea : Int) (a3_b : Int) (a4_eb : Int) : Option (Int × Int) := (Option.bind (F_spec_l15Code n a0_list a1_a a2_ea a3_b a4_eb) fun r3 => (bif (r3 != 0) then (some (0, r3)) else (Option.bind (F_spec_l15Pairs n a0_list a1_a a2_ea a3_b a4_eb) fun r11 => (Option.bind (getI r11 0) fun x21 => (Option.bind (getI x21 1) fun x31 => (Option.bind (getI r11 0) fun x39 => (Option.bind (getI x39 0) fun x49 => (F_spec_SetupSeparation_L1 r11 (fun i63 i64 => (some (i63, 0))) n (IntKind.wrap IntKind.i64 (x31 - x49)) 0))))))))
set_option maxHeartbeats 40000000 in
theorem W_spec_SetupSeparation {n : Nat} {a0_list : List S_Clock} {a1_a : Int} {a2_ea : Int} {a3_b : Int} {a4_eb : Int} {r : Int × Int} {w : World} {v1 : Value} (hF : F_spec_SetupSeparation n a0_list a1_a a2_ea a3_b a4_eb = some r) (ha2 : slRep C_Clock w (Iv 0 w.heap.size) a0_list v1) :
    Calls Tryd.prog 13 [v1, .int .i64 a1_a, .int .i64 a2_ea, .int .i64 a3_b, .int .i64 a4_eb].toArray w (Ret fun u w2 => u = .tuple #[.int .i64 r.1, .int .i64 r.2] ∧ Ext w w2) := by
  refine calls_of Tryd.func13 rfl Tryd.ntmps13 ?_
  have he0 : Ext w w := Ext.refl w
  unfold F_spec_SetupSeparation at hF
  refine WC.seq ?_
  refine WC.region ?_
  refine TL.yld rfl rfl (yld_assign rfl rfl) ?_
  refine TL.yld rfl rfl (yld_assign rfl rfl) ?_
  refine TL.done ?_
  refine NX.seq ?_
  refine WC.seq ?_
  refine WC.seq ?_
  refine WC.region ?_
  refine TL.yld rfl rfl (yld_move rfl rfl) ?_
  refine TL.yld rfl rfl (yld_move rfl rfl) ?_
  refine TL.yld rfl rfl (yld_move rfl rfl) ?_
  refine TL.yld rfl rfl (yld_move rfl rfl) ?_
  refine TL.yld rfl rfl (yld_move rfl rfl) ?_
  obtain ⟨r3, hr4, hF⟩ := bsome hF
  refine TL.eff rfl rfl (eff_call rfl gf_47 rfl (W_spec_l15Code hr4 ((slRep.old ha2 he0 (Nat.le_refl _)).wide (Nat.le_refl _) (he0).size))) ?_
  rintro _ w5 ⟨rfl, hx6⟩
  have he7 : Ext w w5 := Ext.trans he0 hx6
  have hz8 := (hx6).size
  refine TL.yld rfl rfl (yld_assign rfl rfl) ?_
  refine TL.done ?_
  refine NX.seq ?_
  refine WC.seq ?_
  refine WC.region ?_
  refine TL.yld rfl rfl (yld_move rfl rfl) ?_
  refine TL.yld rfl rfl (yld_neq rfl rfl rfl) ?_
  refine TL.done ?_
  refine NX.seq ?_
  refine WC.cond rfl ?_ ?_
  · intro hc9
    replace hF := bif_t hc9 hF
    refine WC.seq ?_
    refine WC.region ?_
    refine TL.yld rfl rfl (yld_move rfl rfl) ?_
    refine TL.yld rfl rfl (yld_assign rfl rfl) ?_
    refine TL.yld rfl rfl (yld_assign rfl rfl) ?_
    refine TL.done ?_
    refine NX.seq ?_
    refine WC.ret' ?_
    refine NX.then_r ?_
    obtain rfl := Option.some.inj hF
    exact NX.end (rs := [.tmp 10, .tmp 11]) (vs := [.int .i64 0, .int .i64 r3]) rfl ⟨rfl, rfl, trivial⟩ ⟨_, rfl, rfl, he7⟩
  · intro hc10
    replace hF := bif_f hc10 hF
    refine WC.skip' ?_
    refine NX.seq ?_
    refine WC.seq ?_
    refine WC.region ?_
    refine TL.yld rfl rfl (yld_move rfl rfl) ?_
    refine TL.yld rfl rfl (yld_move rfl rfl) ?_
    refine TL.yld rfl rfl (yld_move rfl rfl) ?_
    refine TL.yld rfl rfl (yld_move rfl rfl) ?_
    refine TL.yld rfl rfl (yld_move rfl rfl) ?_
    obtain ⟨r11, hr12, hF⟩ := bsome hF
    refine TL.eff rfl rfl (eff_call rfl gf_48 rfl (W_spec_l15Pairs hr12 ((slRep.old ha2 he7 (Nat.le_refl _)).wide (Nat.le_refl _) (he7).size))) ?_
    rintro v15 w13 ⟨_, rfl, hs16, hx14⟩
    have he19 : Ext w w13 := Ext.trans he7 hx14
    have hz20 := (hx14).size
    have hbd18 := ownR.blk hs16
    refine TL.yld rfl rfl (yld_assign rfl rfl) ?_
    refine TL.done ?_
    refine NX.seq ?_
    refine WC.seq ?_
    refine WC.quiet Tryd.hm (by kernel_rfl) ?_
    refine QL.yld rfl rfl (Yld.qui (yld_move rfl rfl)) ?_
    obtain ⟨x21, hy22, hF⟩ := bsome hF
    refine QL.ye rfl rfl (ye_index_own (c := (cSl (cInt .i64))) rfl Tryd.underlying38 cn_42 rfl rfl hs16 hy22) ?_
    rintro _ ⟨g23, us25, rfl, hg24, hr26, hcl27⟩
    have hr26r := hr26
    obtain ⟨v28, rfl, hs29⟩ := hr26
    have hs30 := slRep.mono hs29 (S' := Iv w5.heap.size w13.heap.size) (fun k h => ⟨h.1, h.2.1⟩) (fun _ _ => rfl)
    refine QL.yld rfl rfl (Yld.qui (yld_load1 0 rfl ag_42 rfl hcl27 rfl rfl)) ?_
    obtain ⟨x31, hy32, hF⟩ := bsome hF
    refine QL.ye rfl rfl (ye_index (c := (cInt .i64)) rfl Tryd.underlying42 cn_2 rfl rfl hs30 hy32) ?_
    rintro _ ⟨b33, o34, us35, rfl, hib38, hr36, hcl37⟩
    have hib38 : w5.heap.size ≤ b33 ∧ b33 < w13.heap.size := ⟨hib38.1, by have := hib38.2; omega⟩
    obtain rfl := hr36
    refine QL.yld rfl rfl (Yld.qui (yld_load1 0 rfl ag_2 rfl hcl37 rfl rfl)) ?_
    refine QL.yld rfl rfl (Yld.qui (yld_move rfl rfl)) ?_
    obtain ⟨x39, hy40, hF⟩ := bsome hF
    refine QL.ye rfl rfl (ye_index_own (c := (cSl (cInt .i64))) rfl Tryd.underlying38 cn_42 rfl rfl hs16 hy40) ?_
    rintro _ ⟨g41, us43, rfl, hg42, hr44, hcl45⟩
    have hr44r := hr44
    obtain ⟨v46, rfl, hs47⟩ := hr44
    have hs48 := slRep.mono hs47 (S' := Iv w5.heap.size w13.heap.size) (fun k h => ⟨h.1, h.2.1⟩) (fun _ _ => rfl)
    refine QL.yld rfl rfl (Yld.qui (yld_load1 0 rfl ag_42 rfl hcl45 rfl rfl)) ?_
    obtain ⟨x49, hy50, hF⟩ := bsome hF
    refine QL.ye rfl rfl (ye_index (c := (cInt .i64)) rfl Tryd.underlying42 cn_2 rfl rfl hs48 hy50) ?_
    rintro _ ⟨b51, o52, us53, rfl, hib56, hr54, hcl55⟩
    have hib56 : w5.heap.size ≤ b51 ∧ b51 < w13.heap.size := ⟨hib56.1, by have := hib56.2; omega⟩
    obtain rfl := hr54
    refine QL.yld rfl rfl (Yld.qui (yld_load1 0 rfl ag_2 rfl hcl55 rfl rfl)) ?_
    refine QL.yld rfl rfl (Yld.qui (yld_sub rfl rfl rfl)) ?_
    refine QL.yld rfl rfl (Yld.qui (yld_assign rfl rfl)) ?_
    refine QL.done fun w57 hx58 => ?_
    have he59 : Ext w w57 := Ext.trans he19 hx58
    have hs30 := slRep.old hs30 hx58 (by omega)
    have hs48 := slRep.old hs48 hx58 (by omega)
    have hs16 := ownR.extN hs16 hx58 (by omega)
    have hz60 := (hx58).size
    refine NX.seq ?_
    refine WC.seq ?_
    refine WC.seq ?_
    refine WC.region ?_
    refine TL.yld rfl rfl (yld_assign rfl rfl) ?_
    refine TL.done ?_
    refine NX.seq ?_
    refine WC.block ?_
    refine WC.loop (fun m66 a wl => ∃ (i63 : Int) (i64 : Int), Kn 64 [(13, v15), (14, .int .i64 i63), (15, .int .i64 i64)] a ∧ Ext w wl ∧ w57.heap.size ≤ wl.heap.size ∧ ownR (cSl (cInt .i64)) wl (w5.heap.size) (SX (w5.heap.size) wl.heap.size v15) 42 r11 v15 ∧ F_spec_SetupSeparation_L1 r11 (fun i63 i64 => (some (i63, 0))) m66 i63 i64 = some r) n ?_ ?_
    · intro a hK; exact ⟨(IntKind.wrap IntKind.i64 (x31 - x49)), 0, hK.weaken ⟨rfl, rfl, rfl, trivial⟩, he59, Nat.le_refl _, (ownR.wideN hs16 (by omega)), hF⟩
    · rintro m66 a w61 ⟨i63, i64, hK, he62, hz67, hs65, hF⟩
      revert hK; revert a; refine (?_ : WC _ _ _ _ _ _)
      cases m66 with
      | zero => rw [F_spec_SetupSeparation_L1_z] at hF; cases hF
      | succ m66 =>
        rw [F_spec_SetupSeparation_L1_s] at hF
        refine WC.seq ?_
        refine WC.seq ?_
        refine WC.region ?_
        refine TL.yld rfl rfl (yld_move rfl rfl) ?_
        refine TL.yld rfl rfl (yld_move rfl rfl) ?_
        refine TL.yld rfl rfl (yld_len_own (c := (cSl (cInt .i64))) rfl Tryd.underlying38 rfl hs65) ?_
        refine TL.yld rfl rfl (yld_lss rfl rfl rfl) ?_
        refine TL.done ?_
        refine NX.seq ?_
        refine WC.cond rfl ?_ ?_
        · intro hc68
          replace hF := bif_t hc68 hF
          refine WC.skip' ?_
          refine NX.seq ?_
          refine WC.seq ?_
          refine WC.block ?_
          refine WC.quiet Tryd.hm (by kernel_rfl) ?_
          refine QL.yld rfl rfl (Yld.qui (yld_move rfl rfl)) ?_
          refine QL.yld rfl rfl (Yld.qui (yld_move rfl rfl)) ?_
          refine QL.yld rfl rfl (Yld.qui (yld_move rfl rfl)) ?_
          obtain ⟨x69, hy70, hF⟩ := bsome hF
          refine QL.ye rfl rfl (ye_index_own (c := (cSl (cInt .i64))) rfl Tryd.underlying38 cn_42 rfl rfl hs65 hy70) ?_
          rintro _ ⟨g71, us73, rfl, hg72, hr74, hcl75⟩
          have hr74r := hr74
          obtain ⟨v76, rfl, hs77⟩ := hr74
          have hs78 := slRep.mono hs77 (S' := Iv w5.heap.size w61.heap.size) (fun k h => ⟨h.1, h.2.1⟩) (fun _ _ => rfl)
          refine QL.yld rfl rfl (Yld.qui (yld_load1 0 rfl ag_42 rfl hcl75 rfl rfl)) ?_
          obtain ⟨x79, hy80, hF⟩ := bsome hF
          refine QL.ye rfl rfl (ye_index (c := (cInt .i64)) rfl Tryd.underlying42 cn_2 rfl rfl hs78 hy80) ?_
          rintro _ ⟨b81, o82, us83, rfl, hib86, hr84, hcl85⟩
          have hib86 : w5.heap.size ≤ b81 ∧ b81 < w61.heap.size := ⟨hib86.1, by have := hib86.2; omega⟩
          obtain rfl := hr84
          refine QL.yld rfl rfl (Yld.qui (yld_load1 0 rfl ag_2 rfl hcl85 rfl rfl)) ?_
          refine QL.yld rfl rfl (Yld.qui (yld_move rfl rfl)) ?_
          refine QL.yld rfl rfl (Yld.qui (yld_move rfl rfl)) ?_
          obtain ⟨x87, hy88, hF⟩ := bsome hF
          refine QL.ye rfl rfl (ye_index_own (c := (cSl (cInt .i64))) rfl Tryd.underlying38 cn_42 rfl rfl hs65 hy88) ?_
          rintro _ ⟨g89, us91, rfl, hg90, hr92, hcl93⟩
          have hr92r := hr92
          obtain ⟨v94, rfl, hs95⟩ := hr92
          have hs96 := slRep.mono hs95 (S' := Iv w5.heap.size w61.heap.size) (fun k h => ⟨h.1, h.2.1⟩) (fun _ _ => rfl)
          refine QL.yld rfl rfl (Yld.qui (yld_load1 0 rfl ag_42 rfl hcl93 rfl rfl)) ?_
          obtain ⟨x97, hy98, hF⟩ := bsome hF
          refine QL.ye rfl rfl (ye_index (c := (cInt .i64)) rfl Tryd.underlying42 cn_2 rfl rfl hs96 hy98) ?_
          rintro _ ⟨b99, o100, us101, rfl, hib104, hr102, hcl103⟩
          have hib104 : w5.heap.size ≤ b99 ∧ b99 < w61.heap.size := ⟨hib104.1, by have := hib104.2; omega⟩
          obtain rfl := hr102
          refine QL.yld rfl rfl (Yld.qui (yld_load1 0 rfl ag_2 rfl hcl103 rfl rfl)) ?_
          refine QL.yld rfl rfl (Yld.qui (yld_sub rfl rfl rfl)) ?_
          refine QL.yld rfl rfl (Yld.qui (yld_min2 rfl rfl rfl)) ?_
          refine QL.yld rfl rfl (Yld.qui (yld_assign rfl rfl)) ?_
          refine QL.done fun w105 hx106 => ?_
          have he107 : Ext w w105 := Ext.trans he62 hx106
          have hs78 := slRep.old hs78 hx106 (by omega)
          have hs96 := slRep.old hs96 hx106 (by omega)
          have hs65 := ownR.extN hs65 hx106 (by omega)
          have hz108 := (hx106).size
          refine NX.blk_n ?_
          refine NX.seq ?_
          refine WC.region ?_
          refine TL.yld rfl rfl (yld_move rfl rfl) ?_
          refine TL.yld rfl rfl (yld_add rfl rfl rfl) ?_
          refine TL.yld rfl rfl (yld_assign rfl rfl) ?_
          refine TL.done ?_
          refine NX.then_n ?_
          intro a hK; exact ⟨m66, Nat.lt_succ_self m66, (min i63 (IntKind.wrap IntKind.i64 (x79 - x97))), (IntKind.wrap IntKind.i64 (i64 + 1)), hK.weaken ⟨rfl, rfl, rfl, trivial⟩, he107, (by omega), (ownR.wideN hs65 (by omega)), hF⟩
        · intro hc109
          replace hF := bif_f hc109 hF
          refine WC.exit' ?_
          refine NX.then_e ?_
          refine NX.then_e ?_
          refine NX.blk_hit ?_
          refine NX.seq ?_
          refine WC.seq ?_
          refine WC.region ?_
          refine TL.yld rfl rfl (yld_move rfl rfl) ?_
          refine TL.yld rfl rfl (yld_assign rfl rfl) ?_
          refine TL.yld rfl rfl (yld_assign rfl rfl) ?_
          refine TL.done ?_
          refine NX.seq ?_
          refine WC.ret' ?_
          obtain rfl := Option.some.inj hF
          exact NX.end (rs := [.tmp 10, .tmp 11]) (vs := [.int .i64 i63, .int .i64 0]) rfl ⟨rfl, rfl, trivial⟩ ⟨_, rfl, rfl, he62⟩

-- loop.example/g00861/impl.within
def F_impl_within (n : Nat) (a0_x : Int) (a1_low : Int) (a2_high : Int) : Option Bool := (some (((decide (a0_x ≥ a1_low)) && (decide (a0_x ≤ a2_high)))))
set_option maxHeartbeats 40000000 in
theorem W_impl_within {n : Nat} {a0_x : Int} {a1_low : Int} {a2_high : Int} {r : Bool} {w : World} (hF : F_impl_within n a0_x a1_low a2_high = some r) :
    Calls Tryd.prog 54 [.int .i64 a0_x, .int .i64 a1_low, .int .i64 a2_high].toArray w (Ret fun u w2 => u = .bool r ∧ Ext w w2) := by
  refine calls_of Tryd.func54 rfl Tryd.ntmps54 ?_
  have he0 : Ext w w := Ext.refl w
  unfold F_impl_within at hF
  refine WC.seq ?_
  refine WC.region ?_
  refine TL.yld rfl rfl (yld_assign rfl rfl) ?_
  refine TL.done ?_
  refine NX.seq ?_
  refine WC.seq ?_
  refine WC.region ?_
  refine TL.yld rfl rfl (yld_move rfl rfl) ?_
  refine TL.yld rfl rfl (yld_move rfl rfl) ?_
  refine TL.yld rfl rfl (yld_geq rfl rfl rfl) ?_
  refine TL.yld rfl rfl (yld_move rfl rfl) ?_
  refine TL.cut 4 [(14, .bool (((decide (a0_x ≥ a1_low)) && (decide (a0_x ≤ a2_high)))))] (fun w' => Ext w w') ?_ ?_
  · rcases Bool.eq_false_or_eq_true (decide (a0_x ≥ a1_low)) with hg1 | hg1
    ·
      refine TL.gy (j := 3) (t := 10) rfl rfl rfl hg1 rfl (yld_move rfl rfl) ?_
      refine TL.gy (j := 3) (t := 10) rfl rfl rfl hg1 rfl (yld_move rfl rfl) ?_
      refine TL.gy (j := 3) (t := 10) rfl rfl rfl hg1 rfl (yld_leq rfl rfl rfl) ?_
      refine TL.yld rfl rfl (yld_and_t rfl rfl hg1 rfl) ?_
      exact TL.nil fun a h => ⟨h.weaken ⟨rfl, trivial⟩, Ext.refl _⟩
    ·
      refine TL.gnu (j := 3) (t := 10) rfl rfl rfl hg1 rfl ?_
      refine TL.gnu (j := 3) (t := 10) rfl rfl rfl hg1 rfl ?_
      refine TL.gnu (j := 3) (t := 10) rfl rfl rfl hg1 rfl ?_
      refine TL.yld rfl rfl (yld_and_f (b2 := decide (a0_x ≤ a2_high)) rfl rfl hg1 rfl) ?_
      exact TL.nil fun a h => ⟨h.weaken ⟨rfl, trivial⟩, Ext.refl _⟩
  intro w2 hx3
  have he4 : Ext w w2 := Ext.trans he0 hx3
  have hz5 := (hx3).size
  refine TL.yld rfl rfl (yld_assign rfl rfl) ?_
  refine TL.done ?_
  refine NX.seq ?_
  refine WC.ret' ?_
  obtain rfl := Option.some.inj hF
  exact NX.end (rs := [.tmp 6]) (vs := [.bool (((decide (a0_x ≥ a1_low)) && (decide (a0_x ≤ a2_high))))]) rfl ⟨rfl, trivial⟩ ⟨_, rfl, rfl, he4⟩

-- loop.example/g00861/impl.areWithin$1
def F_impl_areWithin_1 (n : Nat) (a0_n : Int) (a1_c : Int) (a2_c : Int) : Option Bool := (Option.bind (F_impl_within n a0_n a1_c a2_c) fun r3 => (some (!r3)))
set_option maxHeartbeats 40000000 in
theorem W_impl_areWithin_1 {n : Nat} {a0_n : Int} {a1_c : Int} {a2_c : Int} {r : Bool} {w : World} {b1_ : Nat} {b2_ : Nat} (hF : F_impl_areWithin_1 n a0_n a1_c a2_c = some r) (hb1 : Box w b1_ [.int .i64 a1_c] 2) (hb2 : Box w b2_ [.int .i64 a2_c] 2) :
    Calls Tryd.prog 121 [.int .i64 a0_n, .pointer (some ⟨b1_, 0, none⟩), .pointer (some ⟨b2_, 0, none⟩)].toArray w (Ret fun u w2 => u = .bool r ∧ Ext w w2) := by
  refine calls_of Tryd.func121 rfl Tryd.ntmps121 ?_
  have he0 : Ext w w := Ext.refl w
  have := Box.lt hb1
  have := Box.lt hb2
  unfold F_impl_areWithin_1 at hF
  refine WC.seq ?_
  refine WC.region ?_
  refine TL.yld rfl rfl (yld_assign rfl rfl) ?_
  refine TL.done ?_
  refine NX.seq ?_
  refine WC.seq ?_
  refine WC.region ?_
  refine TL.yld rfl rfl (yld_move rfl rfl) ?_
  refine TL.yld rfl rfl (yld_load1 0 rfl ag_2 rfl (Box.cells hb1) rfl rfl) ?_
  refine TL.yld rfl rfl (yld_load1 0 rfl ag_2 rfl (Box.cells hb2) rfl rfl) ?_
  obtain ⟨r3, hr4, hF⟩ := bsome hF
  refine TL.eff rfl rfl (eff_call rfl gf_54 rfl (W_impl_within hr4)) ?_
  rintro _ w5 ⟨rfl, hx6⟩
  have he7 : Ext w w5 := Ext.trans he0 hx6
  have hb1 := Box.ext hb1 hx6
  have hb2 := Box.ext hb2 hx6
  have hz8 := (hx6).size
  refine TL.yld rfl rfl (yld_not rfl rfl) ?_
  refine TL.yld rfl rfl (yld_assign rfl rfl) ?_
  refine TL.done ?_
  refine NX.seq ?_
  refine WC.ret' ?_
  obtain rfl := Option.some.inj hF
  exact NX.end (rs := [.tmp 4]) (vs := [.bool (!r3)]) rfl ⟨rfl, trivial⟩ ⟨_, rfl, rfl, he7⟩

-- slices.IndexFunc[[]int64,int64]
def F_slices_IndexFunc_int64_int64_on_impl_areWithin_1_L1 (n : Nat) (a0_s : List Int) (a1c0_c : Int) (a1c1_c : Int) (k0 : Int → Option Int) : Nat → Int → Option Int
  | 0 => fun _ => none
  | m + 1 => fun i7 => (bif decide (i7 < (a0_s.length : Int)) then (Option.bind (getI a0_s i7) fun x11 => (Option.bind (F_impl_areWithin_1 n x11 a1c0_c a1c1_c) fun r19 => (bif r19 then (some i7) else (F_slices_IndexFunc_int64_int64_on_impl_areWithin_1_L1 n a0_s a1c0_c a1c1_c k0 m (IntKind.wrap IntKind.i64 (i7 + 1)))))) else (k0 i7))
theorem F_slices_IndexFunc_int64_int64_on_impl_areWithin_1_L1_z (n : Nat) (a0_s : List Int) (a1c0_c : Int) (a1c1_c : Int) (k0 : Int → Option Int) (i7 : Int) : F_slices_IndexFunc_int64_int64_on_impl_areWithin_1_L1 n a0_s a1c0_c a1c1_c k0 0 i7 = none := rfl
theorem F_slices_IndexFunc_int64_int64_on_impl_areWithin_1_L1_s (m : Nat) (n : Nat) (a0_s : List Int) (a1c0_c : Int) (a1c1_c : Int) (k0 : Int → Option Int) (i7 : Int) : F_slices_IndexFunc_int64_int64_on_impl_areWithin_1_L1 n a0_s a1c0_c a1c1_c k0 (m + 1) i7 = (bif decide (i7 < (a0_s.length : Int)) then (Option.bind (getI a0_s i7) fun x11 => (Option.bind (F_impl_areWithin_1 n x11 a1c0_c a1c1_c) fun r19 => (bif r19 then (some i7) else (F_slices_IndexFunc_int64_int64_on_impl_areWithin_1_L1 n a0_s a1c0_c a1c1_c k0 m (IntKind.wrap IntKind.i64 (i7 + 1)))))) else (k0 i7)) := rfl

def F_slices_IndexFunc_int64_int64_on_impl_areWithin_1 (n : Nat) (a0_s : List Int) (a1c0_c : Int) (a1c1_c : Int) : Option Int := (F_slices_IndexFunc_int64_int64_on_impl_areWithin_1_L1 n a0_s a1c0_c a1c1_c (fun i7 => (some (-1))) n 0)
set_option maxHeartbeats 40000000 in
theorem W_slices_IndexFunc_int64_int64_on_impl_areWithin_1 {n : Nat} {a0_s : List Int} {a1c0_c : Int} {a1c1_c : Int} {r : Int} {w : World} {v1 : Value} {b1c0_ : Nat} {b1c1_ : Nat} (hF : F_slices_IndexFunc_int64_int64_on_impl_areWithin_1 n a0_s a1c0_c a1c1_c = some r) (ha2 : slRep (cInt .i64) w (Iv 0 w.heap.size) a0_s v1) (hb3 : Box w b1c0_ [.int .i64 a1c0_c] 2) (hb4 : Box w b1c1_ [.int .i64 a1c1_c] 2) :
    Calls Tryd.prog 144 [v1, .func (.func 121) #[] [.pointer (some ⟨b1c0_, 0, none⟩), .pointer (some ⟨b1c1_, 0, none⟩)].toArray].toArray w (Ret fun u w2 => u = .int .i64 r ∧ Ext w w2) := by
  refine calls_of Tryd.func144 rfl Tryd.ntmps144 ?_
  have he0 : Ext w w := Ext.refl w
  have := Box.lt hb3
  have := Box.lt hb4
  unfold F_slices_IndexFunc_int64_int64_on_impl_areWithin_1 at hF
  refine WC.seq ?_
  refine WC.region ?_
  refine TL.yld rfl rfl (yld_assign rfl rfl) ?_
  refine TL.done ?_
  refine NX.seq ?_
  refine WC.seq ?_
  refine WC.seq ?_
  refine WC.region ?_
  refine TL.yld rfl rfl (yld_move rfl rfl) ?_
  refine TL.yld rfl rfl (ye_len (c := (cInt .i64)) rfl Tryd.underlying42 rfl (slRep.old ha2 he0 (Nat.le_refl _))) ?_
  refine TL.yld rfl rfl (yld_move rfl rfl) ?_
  refine TL.done ?_
  refine NX.seq ?_
  refine WC.block ?_
  refine WC.loop (fun m10 a wl => ∃ (i7 : Int), Kn 19 [(0, v1), (1, .func (.func 121) #[] [.pointer (some ⟨b1c0_, 0, none⟩), .pointer (some ⟨b1c1_, 0, none⟩)].toArray), (7, .int .i64 ((a0_s.length : Int))), (8, .int .i64 i7)] a ∧ Ext w wl ∧ w.heap.size ≤ wl.heap.size ∧ Box wl b1c0_ [.int .i64 a1c0_c] 2 ∧ Box wl b1c1_ [.int .i64 a1c1_c] 2 ∧ F_slices_IndexFunc_int64_int64_on_impl_areWithin_1_L1 n a0_s a1c0_c a1c1_c (fun i7 => (some (-1))) m10 i7 = some r) n ?_ ?_
  · intro a hK; exact ⟨0, hK.weaken ⟨rfl, rfl, rfl, rfl, trivial⟩, he0, Nat.le_refl _, hb3, hb4, hF⟩
  · rintro m10 a w5 ⟨i7, hK, he6, hz11, hb8, hb9, hF⟩
    revert hK; revert a; refine (?_ : WC _ _ _ _ _ _)
    cases m10 with
    | zero => rw [F_slices_IndexFunc_int64_int64_on_impl_areWithin_1_L1_z] at hF; cases hF
    | succ m10 =>
      rw [F_slices_IndexFunc_int64_int64_on_impl_areWithin_1_L1_s] at hF
      refine WC.seq ?_
      refine WC.region ?_
      refine TL.yld rfl rfl (yld_lss rfl rfl rfl) ?_
      refine TL.done ?_
      refine NX.seq ?_
      refine WC.seq ?_
      refine WC.cond rfl ?_ ?_
      · intro hc12
        replace hF := bif_t hc12 hF
        refine WC.skip' ?_
        refine NX.seq ?_
        refine WC.seq ?_
        refine WC.block ?_
        refine WC.seq ?_
        refine WC.region ?_
        refine TL.yld rfl rfl (yld_move rfl rfl) ?_
        refine TL.yld rfl rfl (yld_assign rfl rfl) ?_
        refine TL.done ?_
        refine NX.seq ?_
        refine WC.seq ?_
        refine WC.region ?_
        refine TL.yld rfl rfl (yld_move rfl rfl) ?_
        refine TL.yld rfl rfl (yld_move rfl rfl) ?_
        refine TL.yld rfl rfl (yld_move rfl rfl) ?_
        obtain ⟨x13, hy14, hF⟩ := bsome hF
        refine TL.ye rfl rfl (ye_index (c := (cInt .i64)) rfl Tryd.underlying42 cn_2 rfl rfl (slRep.old ha2 he6 (Nat.le_refl _)) hy14) ?_
        rintro _ ⟨b15, o16, us17, rfl, hib20, hr18, hcl19⟩
        have hib20 : 0 ≤ b15 ∧ b15 < w.heap.size := ⟨hib20.1, by have := hib20.2; omega⟩
        obtain rfl := hr18
        refine TL.yld rfl rfl (yld_load1 0 rfl ag_2 rfl hcl19 rfl rfl) ?_
        obtain ⟨r21, hr22, hF⟩ := bsome hF
        refine TL.eff rfl rfl (eff_callv rfl gf_121 rfl rfl (W_impl_areWithin_1 hr22 hb8 hb9)) ?_
        rintro _ w23 ⟨rfl, hx24⟩
        have he25 : Ext w w23 := Ext.trans he6 hx24
        have hb8 := Box.ext hb8 hx24
        have hb9 := Box.ext hb9 hx24
        have hz26 := (hx24).size
        refine TL.done ?_
        refine NX.seq ?_
        refine WC.cond rfl ?_ ?_
        · intro hc27
          replace hF := bif_t hc27 hF
          refine WC.seq ?_
          refine WC.region ?_
          refine TL.yld rfl rfl (yld_move rfl rfl) ?_
          refine TL.yld rfl rfl (yld_assign rfl rfl) ?_
          refine TL.done ?_
          refine NX.seq ?_
          refine WC.ret' ?_
          refine NX.blk_r ?_
          refine NX.then_r ?_
          refine NX.then_r ?_
          refine NX.blk_r ?_
          refine NX.then_r ?_
          obtain rfl := Option.some.inj hF
          exact NX.end (rs := [.tmp 4]) (vs := [.int .i64 i7]) rfl ⟨rfl, trivial⟩ ⟨_, rfl, rfl, he25⟩
        · intro hc28
          replace hF := bif_f hc28 hF
          refine WC.skip' ?_
          refine NX.blk_n ?_
          refine NX.seq ?_
          refine WC.region ?_
          refine TL.yld rfl rfl (yld_add rfl rfl rfl) ?_
          refine TL.yld rfl rfl (yld_move rfl rfl) ?_
          refine TL.done ?_
          refine NX.then_n ?_
          intro a hK; exact ⟨m10, Nat.lt_succ_self m10, (IntKind.wrap IntKind.i64 (i7 + 1)), hK.weaken ⟨rfl, rfl, rfl, rfl, trivial⟩, he25, (by omega), hb8, hb9, hF⟩
      · intro hc29
        replace hF := bif_f hc29 hF
        refine WC.exit' ?_
        refine NX.then_e ?_
        refine NX.then_e ?_
        refine NX.blk_hit ?_
        refine NX.seq ?_
        refine WC.seq ?_
        refine WC.region ?_
        refine TL.yld rfl rfl (yld_assign rfl rfl) ?_
        refine TL.done ?_
        refine NX.seq ?_
        refine WC.ret' ?_
        obtain rfl := Option.some.inj hF
        exact NX.end (rs := [.tmp 4]) (vs := [.int .i64 (-1)]) rfl ⟨rfl, trivial⟩ ⟨_, rfl, rfl, he6⟩

-- slices.ContainsFunc[[]int64,int64]
def F_slices_ContainsFunc_int64_int64_on_impl_areWithin_1 (n : Nat) (a0_s : List Int) (a1c0_c : Int) (a1c1_c : Int) : Option Bool := (Option.bind (F_slices_IndexFunc_int64_int64_on_impl_areWithin_1 n a0_s a1c0_c a1c1_c) fun r5 => (some (decide (r5 ≥ 0))))
set_option maxHeartbeats 40000000 in
theorem W_slices_ContainsFunc_int64_int64_on_impl_areWithin_1 {n : Nat} {a0_s : List Int} {a1c0_c : Int} {a1c1_c : Int} {r : Bool} {w : World} {v1 : Value} {b1c0_ : Nat} {b1c1_ : Nat} (hF : F_slices_ContainsFunc_int64_int64_on_impl_areWithin_1 n a0_s a1c0_c a1c1_c = some r) (ha2 : slRep (cInt .i64) w (Iv 0 w.heap.size) a0_s v1) (hb3 : Box w b1c0_ [.int .i64 a1c0_c] 2) (hb4 : Box w b1c1_ [.int .i64 a1c1_c] 2) :
    Calls Tryd.prog 120 [v1, .func (.func 121) #[] [.pointer (some ⟨b1c0_, 0, none⟩), .pointer (some ⟨b1c1_, 0, none⟩)].toArray].toArray w (Ret fun u w2 => u = .bool r ∧ Ext w w2) := by
  refine calls_of Tryd.func120 rfl Tryd.ntmps120 ?_
  have he0 : Ext w w := Ext.refl w
  have := Box.lt hb3
  have := Box.lt hb4
  unfold F_slices_ContainsFunc_int64_int64_on_impl_areWithin_1 at hF
  refine WC.seq ?_
  refine WC.region ?_
  refine TL.yld rfl rfl (yld_assign rfl rfl) ?_
  refine TL.done ?_
  refine NX.seq ?_
  refine WC.seq ?_
  refine WC.region ?_
  refine TL.yld rfl rfl (yld_move rfl rfl) ?_
  refine TL.yld rfl rfl (yld_move rfl rfl) ?_
  obtain ⟨r5, hr6, hF⟩ := bsome hF
  refine TL.eff rfl rfl (eff_call rfl gf_144 rfl (W_slices_IndexFunc_int64_int64_on_impl_areWithin_1 hr6 ((slRep.old ha2 he0 (Nat.le_refl _)).wide (Nat.le_refl _) (he0).size) hb3 hb4)) ?_
  rintro _ w7 ⟨rfl, hx8⟩
  have he9 : Ext w w7 := Ext.trans he0 hx8
  have hb3 := Box.ext hb3 hx8
  have hb4 := Box.ext hb4 hx8
  have hz10 := (hx8).size
  refine TL.yld rfl rfl (yld_geq rfl rfl rfl) ?_
  refine TL.yld rfl rfl (yld_assign rfl rfl) ?_
  refine TL.done ?_
  refine NX.seq ?_
  refine WC.ret' ?_
  obtain rfl := Option.some.inj hF
  exact NX.end (rs := [.tmp 4]) (vs := [.bool (decide (r5 ≥ 0))]) rfl ⟨rfl, trivial⟩ ⟨_, rfl, rfl, he9⟩

-- loop.example/g00861/impl.areWithin
def F_impl_areWithin (n : Nat) (a0_list : List Int) (a1_low : Int) (a2_high : Int) : Option Bool := (Option.bind (F_slices_ContainsFunc_int64_int64_on_impl_areWithin_1 n a0_list a1_low a2_high) fun r17 => (some (!r17)))
set_option maxHeartbeats 40000000 in
theorem W_impl_areWithin {n : Nat} {a0_list : List Int} {a1_low : Int} {a2_high : Int} {r : Bool} {w : World} {v1 : Value} (hF : F_impl_areWithin n a0_list a1_low a2_high = some r) (ha2 : slRep (cInt .i64) w (Iv 0 w.heap.size) a0_list v1) :
    Calls Tryd.prog 82 [v1, .int .i64 a1_low, .int .i64 a2_high].toArray w (Ret fun u w2 => u = .bool r ∧ Ext w w2) := by
  refine calls_of Tryd.func82 rfl Tryd.ntmps82 ?_
  have he0 : Ext w w := Ext.refl w
  unfold F_impl_areWithin at hF
  refine WC.seq ?_
  refine WC.region ?_
  refine TL.eff rfl rfl (eff_box rfl rfl) ?_
  rintro _ w4 ⟨b3, rfl, hn5⟩
  obtain ⟨hn5e, hn5s, hn5x, hb6⟩ := hn5
  have hb6 : Box w4 b3 [.int .i64 a1_low] 2 := hb6
  have he8 : Ext w w4 := Ext.trans he0 hn5x
  have hz9 := (hn5x).size
  have hlo7 : w.heap.size ≤ b3 := by rw [hn5e]; exact (he0).size
  refine TL.eff rfl rfl (eff_box rfl rfl) ?_
  rintro _ w11 ⟨b10, rfl, hn12⟩
  obtain ⟨hn12e, hn12s, hn12x, hb13⟩ := hn12
  have hb13 : Box w11 b10 [.int .i64 a2_high] 2 := hb13
  have he15 : Ext w w11 := Ext.trans he8 hn12x
  have hb6 := Box.ext hb6 hn12x
  have hz16 := (hn12x).size
  have hlo14 : w.heap.size ≤ b10 := by rw [hn12e]; exact (he8).size
  refine TL.yld rfl rfl (yld_assign rfl rfl) ?_
  refine TL.done ?_
  refine NX.seq ?_
  refine WC.seq ?_
  refine WC.region ?_
  refine TL.yld rfl rfl (yld_move rfl rfl) ?_
  refine TL.yld rfl rfl (yld_makeFunc rfl rfl rfl) ?_
  obtain ⟨r17, hr18, hF⟩ := bsome hF
  refine TL.eff rfl rfl (eff_call rfl gf_120 rfl (W_slices_ContainsFunc_int64_int64_on_impl_areWithin_1 hr18 ((slRep.old ha2 he15 (Nat.le_refl _)).wide (Nat.le_refl _) (he15).size) hb6 hb13)) ?_
  rintro _ w19 ⟨rfl, hx20⟩
  have he21 : Ext w w19 := Ext.trans he15 hx20
  have hb6 := Box.ext hb6 hx20
  have hb13 := Box.ext hb13 hx20
  have hz22 := (hx20).size
  refine TL.yld rfl rfl (yld_not rfl rfl) ?_
  refine TL.yld rfl rfl (yld_assign rfl rfl) ?_
  refine TL.done ?_
  refine NX.seq ?_
  refine WC.ret' ?_
  obtain rfl := Option.some.inj hF
  exact NX.end (rs := [.tmp 6]) (vs := [.bool (!r17)]) rfl ⟨rfl, trivial⟩ ⟨_, rfl, rfl, he21⟩

-- loop.example/g00861/impl.waveOf
def F_impl_waveOf : Nat → (List S_Clock) → Int → Option S_wave
  | 0 => fun _ _ => none
  | n + 1 => fun a0_list a1_k => (Option.bind (getI a0_list a1_k) fun x10 => (bif decide (x10.Source < 0) then (some ((S_wave.mk x10.Period ((A2_Int.mk x10.RiseAt x10.FallAt))))) else (Option.bind (F_impl_waveOf n a0_list x10.Source) fun r37 => (bif decide (x10.Divide > 1) then (bif x10.Invert then (some ((S_wave.mk (IntKind.wrap IntKind.i64 (x10.Divide * r37.period_)) ((A2_Int.mk (IntKind.wrap IntKind.i64 (r37.edges_.e0 + (IntKind.wrap IntKind.i64 ((IntKind.wrap IntKind.i64 (Int.tdiv x10.Divide 2)) * r37.period_)))) r37.edges_.e0))))) else (some ((S_wave.mk (IntKind.wrap IntKind.i64 (x10.Divide * r37.period_)) ((A2_Int.mk r37.edges_.e0 (IntKind.wrap IntKind.i64 (r37.edges_.e0 + (IntKind.wrap IntKind.i64 ((IntKind.wrap IntKind.i64 (Int.tdiv x10.Divide 2)) * r37.period_)))))))))) else (bif x10.Invert then (some ((S_wave.mk r37.period_ ((A2_Int.mk r37.edges_.e1 r37.edges_.e0))))) else (some r37))))))
theorem F_impl_waveOf_z (a0_list : List S_Clock) (a1_k : Int) : F_impl_waveOf 0 a0_list a1_k = none := rfl
theorem F_impl_waveOf_s (n : Nat) (a0_list : List S_Clock) (a1_k : Int) : F_impl_waveOf (n + 1) a0_list a1_k = (Option.bind (getI a0_list a1_k) fun x10 => (bif decide (x10.Source < 0) then (some ((S_wave.mk x10.Period ((A2_Int.mk x10.RiseAt x10.FallAt))))) else (Option.bind (F_impl_waveOf n a0_list x10.Source) fun r37 => (bif decide (x10.Divide > 1) then (bif x10.Invert then (some ((S_wave.mk (IntKind.wrap IntKind.i64 (x10.Divide * r37.period_)) ((A2_Int.mk (IntKind.wrap IntKind.i64 (r37.edges_.e0 + (IntKind.wrap IntKind.i64 ((IntKind.wrap IntKind.i64 (Int.tdiv x10.Divide 2)) * r37.period_)))) r37.edges_.e0))))) else (some ((S_wave.mk (IntKind.wrap IntKind.i64 (x10.Divide * r37.period_)) ((A2_Int.mk r37.edges_.e0 (IntKind.wrap IntKind.i64 (r37.edges_.e0 + (IntKind.wrap IntKind.i64 ((IntKind.wrap IntKind.i64 (Int.tdiv x10.Divide 2)) * r37.period_)))))))))) else (bif x10.Invert then (some ((S_wave.mk r37.period_ ((A2_Int.mk r37.edges_.e1 r37.edges_.e0))))) else (some r37)))))) := rfl
set_option maxHeartbeats 40000000 in
theorem W_impl_waveOf {n : Nat} {a0_list : List S_Clock} {a1_k : Int} {r : S_wave} {w : World} {v1 : Value} (hF : F_impl_waveOf n a0_list a1_k = some r) (ha2 : slRep C_Clock w (Iv 0 w.heap.size) a0_list v1) :
    Calls Tryd.prog 64 [v1, .int .i64 a1_k].toArray w (Ret fun u w2 => u = .agg #[.int .i64 r.period_, .int .i64 r.edges_.e0, .int .i64 r.edges_.e1] ∧ Ext w w2) := by
  cases n with
  | zero => rw [F_impl_waveOf_z] at hF; cases hF
  | succ n =>
    refine calls_of Tryd.func64 rfl Tryd.ntmps64 ?_
    have he0 : Ext w w := Ext.refl w
    rw [F_impl_waveOf_s] at hF
    refine WC.seq ?_
    refine WC.region ?_
    refine TL.eff rfl rfl (eff_alloc rfl zn_84) ?_
    rintro _ w4 ⟨b3, rfl, hn5⟩
    obtain ⟨hn5e, hn5s, hn5x, hb6⟩ := hn5
    have hb6 : Box w4 b3 [.int .i64 0, .int .i64 0, .int .i64 0] 84 := hb6
    have he8 : Ext w w4 := Ext.trans he0 hn5x
    have hz9 := (hn5x).size
    have hlo7 : w.heap.size ≤ b3 := by rw [hn5e]; exact (he0).size
    refine TL.done ?_
    refine NX.seq ?_
    refine WC.seq ?_
    refine WC.region ?_
    refine TL.yld rfl rfl (yld_move rfl rfl) ?_
    refine TL.yld rfl rfl (yld_move rfl rfl) ?_
    obtain ⟨x10, hy11, hF⟩ := bsome hF
    refine TL.ye rfl rfl (ye_index (c := C_Clock) rfl Tryd.underlying26 cn_75 rfl rfl (slRep.old ha2 he8 (Nat.le_refl _)) hy11) ?_
    rintro _ ⟨b12, o13, us14, rfl, hib17, hr15, hcl16⟩
    have hib17 : 0 ≤ b12 ∧ b12 < w.heap.size := ⟨hib17.1, by have := hib17.2; omega⟩
    obtain rfl := C_Clock_open hr15
    refine TL.yld rfl rfl (yld_loadN (us := [.string x10.Name, .int .i64 x10.Place, .int .i64 x10.Period, .int .i64 x10.RiseAt, .int .i64 x10.FallAt, .int .i64 x10.Source, .int .i64 x10.Divide, .bool x10.Invert, .int .i64 x10.EarlyLatency, .int .i64 x10.LateLatency, .int .i64 x10.Uncertainty]) rfl ag_75 rfl hcl16 cn_75) ?_
    refine TL.eff rfl rfl (eff_alloc rfl zn_75) ?_
    rintro _ w19 ⟨b18, rfl, hn20⟩
    obtain ⟨hn20e, hn20s, hn20x, hb21⟩ := hn20
    have hb21 : Box w19 b18 [.string ByteArray.empty, .int .i64 0, .int .i64 0, .int .i64 0, .int .i64 0, .int .i64 0, .int .i64 0, .bool false, .int .i64 0, .int .i64 0, .int .i64 0] 75 := hb21
    have he23 : Ext w w19 := Ext.trans he8 hn20x
    have hb6 := Box.ext hb6 hn20x
    have hz24 := (hn20x).size
    have hlo22 : w.heap.size ≤ b18 := by rw [hn20e]; exact (he8).size
    refine TL.eff rfl rfl (eff_store rfl rfl rfl hb21 cn_75 rfl rfl) ?_
    rintro _ w25 ⟨hu26, hb27⟩
    have he28 : Ext w w25 := Below.trans he23 (Upd.below hu26 (by omega))
    have hb6 := Box.upd hb6 hu26 (by omega)
    have hz29 := (hu26).size
    have hb21 : Box w25 b18 [.string x10.Name, .int .i64 x10.Place, .int .i64 x10.Period, .int .i64 x10.RiseAt, .int .i64 x10.FallAt, .int .i64 x10.Source, .int .i64 x10.Divide, .bool x10.Invert, .int .i64 x10.EarlyLatency, .int .i64 x10.LateLatency, .int .i64 x10.Uncertainty] 75 := hb27
    refine TL.done ?_
    refine NX.seq ?_
    refine WC.seq ?_
    refine WC.seq ?_
    refine WC.region ?_
    refine TL.yld rfl rfl (yld_fieldAddr rfl fo_75_5 rfl) ?_
    refine TL.yld rfl rfl (yld_load1 5 rfl ag_2 rfl (Box.cells hb21) rfl rfl) ?_
    refine TL.yld rfl rfl (yld_lss rfl rfl rfl) ?_
    refine TL.done ?_
    refine NX.seq ?_
    refine WC.cond rfl ?_ ?_
    · intro hc30
      replace hF := bif_t hc30 hF
      refine WC.seq ?_
      refine WC.region ?_
      refine TL.yld rfl rfl (yld_fieldAddr rfl fo_75_2 rfl) ?_
      refine TL.yld rfl rfl (yld_load1 2 rfl ag_2 rfl (Box.cells hb21) rfl rfl) ?_
      refine TL.yld rfl rfl (yld_fieldAddr rfl fo_75_3 rfl) ?_
      refine TL.yld rfl rfl (yld_load1 3 rfl ag_2 rfl (Box.cells hb21) rfl rfl) ?_
      refine TL.yld rfl rfl (yld_fieldAddr rfl fo_75_4 rfl) ?_
      refine TL.yld rfl rfl (yld_load1 4 rfl ag_2 rfl (Box.cells hb21) rfl rfl) ?_
      refine TL.yld rfl rfl (yld_build (uss := [(0, [.int .i64 x10.RiseAt]), (1, [.int .i64 x10.FallAt])]) (out := [.int .i64 x10.RiseAt, .int .i64 x10.FallAt]) rfl rfl zn_82 pl_82 rfl rfl) ?_
      refine TL.yld rfl rfl (yld_build (uss := [(0, [.int .i64 x10.Period]), (1, [.int .i64 x10.RiseAt, .int .i64 x10.FallAt])]) (out := [.int .i64 x10.Period, .int .i64 x10.RiseAt, .int .i64 x10.FallAt]) rfl rfl zn_84 pl_84 rfl rfl) ?_
      refine TL.eff rfl rfl (eff_store rfl rfl rfl hb6 cn_84 rfl rfl) ?_
      rintro _ w31 ⟨hu32, hb33⟩
      have he34 : Ext w w31 := Below.trans he28 (Upd.below hu32 (by omega))
      have hb21 := Box.upd hb21 hu32 (by omega)
      have hz35 := (hu32).size
      have hb6 : Box w31 b3 [.int .i64 x10.Period, .int .i64 x10.RiseAt, .int .i64 x10.FallAt] 84 := hb33
      refine TL.done ?_
      refine NX.seq ?_
      refine WC.ret' ?_
      refine NX.then_r ?_
      obtain rfl := Option.some.inj hF
      exact NX.end (rs := [.cell 4 84]) (vs := [.agg #[.int .i64 x10.Period, .int .i64 x10.RiseAt, .int .i64 x10.FallAt]]) rfl ⟨⟨b3, rfl, box_load ag_84 cn_84 hb6⟩, trivial⟩ ⟨_, rfl, rfl, he34⟩
    · intro hc36
      replace hF := bif_f hc36 hF
      refine WC.skip' ?_
      refine NX.seq ?_
      refine WC.seq ?_
      refine WC.region ?_
      refine TL.yld rfl rfl (yld_move rfl rfl) ?_
      refine TL.yld rfl rfl (yld_fieldAddr rfl fo_75_5 rfl) ?_
      refine TL.yld rfl rfl (yld_load1 5 rfl ag_2 rfl (Box.cells hb21) rfl rfl) ?_
      obtain ⟨r37, hr38, hF⟩ := bsome hF
      refine TL.eff rfl rfl (eff_call rfl gf_64 rfl (W_impl_waveOf hr38 ((slRep.old ha2 he28 (Nat.le_refl _)).wide (Nat.le_refl _) (he28).size))) ?_
      rintro _ w39 ⟨rfl, hx40⟩
      have he41 : Ext w w39 := Ext.trans he28 hx40
      have hb6 := Box.ext hb6 hx40
      have hb21 := Box.ext hb21 hx40
      have hz42 := (hx40).size
      refine TL.eff rfl rfl (eff_alloc rfl zn_84) ?_
      rintro _ w44 ⟨b43, rfl, hn45⟩
      obtain ⟨hn45e, hn45s, hn45x, hb46⟩ := hn45
      have hb46 : Box w44 b43 [.int .i64 0, .int .i64 0, .int .i64 0] 84 := hb46
      have he48 : Ext w w44 := Ext.trans he41 hn45x
      have hb6 := Box.ext hb6 hn45x
      have hb21 := Box.ext hb21 hn45x
      have hz49 := (hn45x).size
      have hlo47 : w.heap.size ≤ b43 := by rw [hn45e]; exact (he41).size
      refine TL.eff rfl rfl (eff_store rfl rfl rfl hb46 cn_84 rfl rfl) ?_
      rintro _ w50 ⟨hu51, hb52⟩
      have he53 : Ext w w50 := Below.trans he48 (Upd.below hu51 (by omega))
      have hb6 := Box.upd hb6 hu51 (by omega)
      have hb21 := Box.upd hb21 hu51 (by omega)
      have hz54 := (hu51).size
      have hb46 : Box w50 b43 [.int .i64 r37.period_, .int .i64 r37.edges_.e0, .int .i64 r37.edges_.e1] 84 := hb52
      refine TL.done ?_
      refine NX.seq ?_
      refine WC.seq ?_
      refine WC.seq ?_
      refine WC.region ?_
      refine TL.yld rfl rfl (yld_fieldAddr rfl fo_75_6 rfl) ?_
      refine TL.yld rfl rfl (yld_load1 6 rfl ag_2 rfl (Box.cells hb21) rfl rfl) ?_
      refine TL.yld rfl rfl (yld_gtr rfl rfl rfl) ?_
      refine TL.done ?_
      refine NX.seq ?_
      refine WC.cond rfl ?_ ?_
      · intro hc55
        replace hF := bif_t hc55 hF
        refine WC.seq ?_
        refine WC.region ?_
        refine TL.yld rfl rfl (yld_fieldAddr rfl fo_84_1 rfl) ?_
        refine TL.yld rfl rfl (yld_indexArr rfl Tryd.underlying82 cn_2 rfl rfl (by decide)) ?_
        refine TL.yld rfl rfl (yld_load1 1 rfl ag_2 rfl (Box.cells hb46) rfl rfl) ?_
        refine TL.yld rfl rfl (yld_assign rfl rfl) ?_
        refine TL.done ?_
        refine NX.seq ?_
        refine WC.region ?_
        refine TL.yld rfl rfl (yld_fieldAddr rfl fo_75_6 rfl) ?_
        refine TL.yld rfl rfl (yld_load1 6 rfl ag_2 rfl (Box.cells hb21) rfl rfl) ?_
        refine TL.yld rfl rfl (yld_fieldAddr rfl fo_84_0 rfl) ?_
        refine TL.yld rfl rfl (yld_load1 0 rfl ag_2 rfl (Box.cells hb46) rfl rfl) ?_
        refine TL.yld rfl rfl (yld_mul rfl rfl rfl) ?_
        refine TL.yld rfl rfl (yld_move rfl rfl) ?_
        refine TL.yld rfl rfl (yld_move rfl rfl) ?_
        refine TL.yld rfl rfl (yld_fieldAddr rfl fo_75_6 rfl) ?_
        refine TL.yld rfl rfl (yld_load1 6 rfl ag_2 rfl (Box.cells hb21) rfl rfl) ?_
        refine TL.yld rfl rfl (yld_quo rfl rfl rfl (by decide)) ?_
        refine TL.yld rfl rfl (yld_fieldAddr rfl fo_84_0 rfl) ?_
        refine TL.yld rfl rfl (yld_load1 0 rfl ag_2 rfl (Box.cells hb46) rfl rfl) ?_
        refine TL.yld rfl rfl (yld_mul rfl rfl rfl) ?_
        refine TL.yld rfl rfl (yld_add rfl rfl rfl) ?_
        refine TL.yld rfl rfl (yld_build (uss := [(0, [.int .i64 r37.edges_.e0]), (1, [.int .i64 (IntKind.wrap IntKind.i64 (r37.edges_.e0 + (IntKind.wrap IntKind.i64 ((IntKind.wrap IntKind.i64 (Int.tdiv x10.Divide 2)) * r37.period_))))])]) (out := [.int .i64 r37.edges_.e0, .int .i64 (IntKind.wrap IntKind.i64 (r37.edges_.e0 + (IntKind.wrap IntKind.i64 ((IntKind.wrap IntKind.i64 (Int.tdiv x10.Divide 2)) * r37.period_))))]) rfl rfl zn_82 pl_82 rfl rfl) ?_
        refine TL.yld rfl rfl (yld_build (uss := [(0, [.int .i64 (IntKind.wrap IntKind.i64 (x10.Divide * r37.period_))]), (1, [.int .i64 r37.edges_.e0, .int .i64 (IntKind.wrap IntKind.i64 (r37.edges_.e0 + (IntKind.wrap IntKind.i64 ((IntKind.wrap IntKind.i64 (Int.tdiv x10.Divide 2)) * r37.period_))))])]) (out := [.int .i64 (IntKind.wrap IntKind.i64 (x10.Divide * r37.period_)), .int .i64 r37.edges_.e0, .int .i64 (IntKind.wrap IntKind.i64 (r37.edges_.e0 + (IntKind.wrap IntKind.i64 ((IntKind.wrap IntKind.i64 (Int.tdiv x10.Divide 2)) * r37.period_))))]) rfl rfl zn_84 pl_84 rfl rfl) ?_
        refine TL.eff rfl rfl (eff_store rfl rfl rfl hb46 cn_84 rfl rfl) ?_
        rintro _ w56 ⟨hu57, hb58⟩
        have he59 : Ext w w56 := Below.trans he53 (Upd.below hu57 (by omega))
        have hb6 := Box.upd hb6 hu57 (by omega)
        have hb21 := Box.upd hb21 hu57 (by omega)
        have hz60 := (hu57).size
        have hb46 : Box w56 b43 [.int .i64 (IntKind.wrap IntKind.i64 (x10.Divide * r37.period_)), .int .i64 r37.edges_.e0, .int .i64 (IntKind.wrap IntKind.i64 (r37.edges_.e0 + (IntKind.wrap IntKind.i64 ((IntKind.wrap IntKind.i64 (Int.tdiv x10.Divide 2)) * r37.period_))))] 84 := hb58
        refine TL.done ?_
        refine NX.seq ?_
        refine WC.seq ?_
        refine WC.seq ?_
        refine WC.region ?_
        refine TL.yld rfl rfl (yld_fieldAddr rfl fo_75_7 rfl) ?_
        refine TL.yld rfl rfl (yld_load1 7 rfl ag_4 rfl (Box.cells hb21) rfl rfl) ?_
        refine TL.done ?_
        refine NX.seq ?_
        refine WC.cond rfl ?_ ?_
        · intro hc61
          replace hF := bif_t hc61 hF
          refine WC.region ?_
          refine TL.yld rfl rfl (yld_fieldAddr rfl fo_84_1 rfl) ?_
          refine TL.yld rfl rfl (yld_indexArr rfl Tryd.underlying82 cn_2 rfl rfl (by decide)) ?_
          refine TL.yld rfl rfl (yld_load1 2 rfl ag_2 rfl (Box.cells hb46) rfl rfl) ?_
          refine TL.yld rfl rfl (yld_fieldAddr rfl fo_84_1 rfl) ?_
          refine TL.yld rfl rfl (yld_indexArr rfl Tryd.underlying82 cn_2 rfl rfl (by decide)) ?_
          refine TL.yld rfl rfl (yld_load1 1 rfl ag_2 rfl (Box.cells hb46) rfl rfl) ?_
          refine TL.yld rfl rfl (yld_fieldAddr rfl fo_84_1 rfl) ?_
          refine TL.yld rfl rfl (yld_indexArr rfl Tryd.underlying82 cn_2 rfl rfl (by decide)) ?_
          refine TL.eff rfl rfl (eff_store rfl rfl rfl hb46 cn_2 rfl rfl) ?_
          rintro _ w62 ⟨hu63, hb64⟩
          have he65 : Ext w w62 := Below.trans he59 (Upd.below hu63 (by omega))
          have hb6 := Box.upd hb6 hu63 (by omega)
          have hb21 := Box.upd hb21 hu63 (by omega)
          have hz66 := (hu63).size
          have hb46 : Box w62 b43 [.int .i64 (IntKind.wrap IntKind.i64 (x10.Divide * r37.period_)), .int .i64 (IntKind.wrap IntKind.i64 (r37.edges_.e0 + (IntKind.wrap IntKind.i64 ((IntKind.wrap IntKind.i64 (Int.tdiv x10.Divide 2)) * r37.period_)))), .int .i64 (IntKind.wrap IntKind.i64 (r37.edges_.e0 + (IntKind.wrap IntKind.i64 ((IntKind.wrap IntKind.i64 (Int.tdiv x10.Divide 2)) * r37.period_))))] 84 := hb64
          refine TL.yld rfl rfl (yld_fieldAddr rfl fo_84_1 rfl) ?_
          refine TL.yld rfl rfl (yld_indexArr rfl Tryd.underlying82 cn_2 rfl rfl (by decide)) ?_
          refine TL.eff rfl rfl (eff_store rfl rfl rfl hb46 cn_2 rfl rfl) ?_
          rintro _ w67 ⟨hu68, hb69⟩
          have he70 : Ext w w67 := Below.trans he65 (Upd.below hu68 (by omega))
          have hb6 := Box.upd hb6 hu68 (by omega)
          have hb21 := Box.upd hb21 hu68 (by omega)
          have hz71 := (hu68).size
          have hb46 : Box w67 b43 [.int .i64 (IntKind.wrap IntKind.i64 (x10.Divide * r37.period_)), .int .i64 (IntKind.wrap IntKind.i64 (r37.edges_.e0 + (IntKind.wrap IntKind.i64 ((IntKind.wrap IntKind.i64 (Int.tdiv x10.Divide 2)) * r37.period_)))), .int .i64 r37.edges_.e0] 84 := hb69
          refine TL.done ?_
          refine NX.seq ?_
          refine WC.seq ?_
          refine WC.region ?_
          refine TL.yld rfl rfl (yld_loadN (us := [.int .i64 (IntKind.wrap IntKind.i64 (x10.Divide * r37.period_)), .int .i64 (IntKind.wrap IntKind.i64 (r37.edges_.e0 + (IntKind.wrap IntKind.i64 ((IntKind.wrap IntKind.i64 (Int.tdiv x10.Divide 2)) * r37.period_)))), .int .i64 r37.edges_.e0]) rfl ag_84 rfl (Box.cells hb46) cn_84) ?_
          refine TL.eff rfl rfl (eff_store rfl rfl rfl hb6 cn_84 rfl rfl) ?_
          rintro _ w72 ⟨hu73, hb74⟩
          have he75 : Ext w w72 := Below.trans he70 (Upd.below hu73 (by omega))
          have hb21 := Box.upd hb21 hu73 (by omega)
          have hb46 := Box.upd hb46 hu73 (by omega)
          have hz76 := (hu73).size
          have hb6 : Box w72 b3 [.int .i64 (IntKind.wrap IntKind.i64 (x10.Divide * r37.period_)), .int .i64 (IntKind.wrap IntKind.i64 (r37.edges_.e0 + (IntKind.wrap IntKind.i64 ((IntKind.wrap IntKind.i64 (Int.tdiv x10.Divide 2)) * r37.period_)))), .int .i64 r37.edges_.e0] 84 := hb74
          refine TL.done ?_
          refine NX.seq ?_
          refine WC.ret' ?_
          obtain rfl := Option.some.inj hF
          exact NX.end (rs := [.cell 4 84]) (vs := [.agg #[.int .i64 (IntKind.wrap IntKind.i64 (x10.Divide * r37.period_)), .int .i64 (IntKind.wrap IntKind.i64 (r37.edges_.e0 + (IntKind.wrap IntKind.i64 ((IntKind.wrap IntKind.i64 (Int.tdiv x10.Divide 2)) * r37.period_)))), .int .i64 r37.edges_.e0]]) rfl ⟨⟨b3, rfl, box_load ag_84 cn_84 hb6⟩, trivial⟩ ⟨_, rfl, rfl, he75⟩
        · intro hc77
          replace hF := bif_f hc77 hF
          refine WC.skip' ?_
          refine NX.seq ?_
          refine WC.seq ?_
          refine WC.region ?_
          refine TL.yld rfl rfl (yld_loadN (us := [.int .i64 (IntKind.wrap IntKind.i64 (x10.Divide * r37.period_)), .int .i64 r37.edges_.e0, .int .i64 (IntKind.wrap IntKind.i64 (r37.edges_.e0 + (IntKind.wrap IntKind.i64 ((IntKind.wrap IntKind.i64 (Int.tdiv x10.Divide 2)) * r37.period_))))]) rfl ag_84 rfl (Box.cells hb46) cn_84) ?_
          refine TL.eff rfl rfl (eff_store rfl rfl rfl hb6 cn_84 rfl rfl) ?_
          rintro _ w78 ⟨hu79, hb80⟩
          have he81 : Ext w w78 := Below.trans he59 (Upd.below hu79 (by omega))
          have hb21 := Box.upd hb21 hu79 (by omega)
          have hb46 := Box.upd hb46 hu79 (by omega)
          have hz82 := (hu79).size
          have hb6 : Box w78 b3 [.int .i64 (IntKind.wrap IntKind.i64 (x10.Divide * r37.period_)), .int .i64 r37.edges_.e0, .int .i64 (IntKind.wrap IntKind.i64 (r37.edges_.e0 + (IntKind.wrap IntKind.i64 ((IntKind.wrap IntKind.i64 (Int.tdiv x10.Divide 2)) * r37.period_))))] 84 := hb80
          refine TL.done ?_
          refine NX.seq ?_
          refine WC.ret' ?_
          obtain rfl := Option.some.inj hF
          exact NX.end (rs := [.cell 4 84]) (vs := [.agg #[.int .i64 (IntKind.wrap IntKind.i64 (x10.Divide * r37.period_)), .int .i64 r37.edges_.e0, .int .i64 (IntKind.wrap IntKind.i64 (r37.edges_.e0 + (IntKind.wrap IntKind.i64 ((IntKind.wrap IntKind.i64 (Int.tdiv x10.Divide 2)) * r37.period_))))]]) rfl ⟨⟨b3, rfl, box_load ag_84 cn_84 hb6⟩, trivial⟩ ⟨_, rfl, rfl, he81⟩
      · intro hc83
        replace hF := bif_f hc83 hF
        refine WC.skip' ?_
        refine NX.seq ?_
        refine WC.seq ?_
        refine WC.seq ?_
        refine WC.region ?_
        refine TL.yld rfl rfl (yld_fieldAddr rfl fo_75_7 rfl) ?_
        refine TL.yld rfl rfl (yld_load1 7 rfl ag_4 rfl (Box.cells hb21) rfl rfl) ?_
        refine TL.done ?_
        refine NX.seq ?_
        refine WC.cond rfl ?_ ?_
        · intro hc84
          replace hF := bif_t hc84 hF
          refine WC.region ?_
          refine TL.yld rfl rfl (yld_fieldAddr rfl fo_84_1 rfl) ?_
          refine TL.yld rfl rfl (yld_indexArr rfl Tryd.underlying82 cn_2 rfl rfl (by decide)) ?_
          refine TL.yld rfl rfl (yld_load1 2 rfl ag_2 rfl (Box.cells hb46) rfl rfl) ?_
          refine TL.yld rfl rfl (yld_fieldAddr rfl fo_84_1 rfl) ?_
          refine TL.yld rfl rfl (yld_indexArr rfl Tryd.underlying82 cn_2 rfl rfl (by decide)) ?_
          refine TL.yld rfl rfl (yld_load1 1 rfl ag_2 rfl (Box.cells hb46) rfl rfl) ?_
          refine TL.yld rfl rfl (yld_fieldAddr rfl fo_84_1 rfl) ?_
          refine TL.yld rfl rfl (yld_indexArr rfl Tryd.underlying82 cn_2 rfl rfl (by decide)) ?_
          refine TL.eff rfl rfl (eff_store rfl rfl rfl hb46 cn_2 rfl rfl) ?_
          rintro _ w85 ⟨hu86, hb87⟩
          have he88 : Ext w w85 := Below.trans he53 (Upd.below hu86 (by omega))
          have hb6 := Box.upd hb6 hu86 (by omega)
          have hb21 := Box.upd hb21 hu86 (by omega)
          have hz89 := (hu86).size
          have hb46 : Box w85 b43 [.int .i64 r37.period_, .int .i64 r37.edges_.e1, .int .i64 r37.edges_.e1] 84 := hb87
          refine TL.yld rfl rfl (yld_fieldAddr rfl fo_84_1 rfl) ?_
          refine TL.yld rfl rfl (yld_indexArr rfl Tryd.underlying82 cn_2 rfl rfl (by decide)) ?_
          refine TL.eff rfl rfl (eff_store rfl rfl rfl hb46 cn_2 rfl rfl) ?_
          rintro _ w90 ⟨hu91, hb92⟩
          have he93 : Ext w w90 := Below.trans he88 (Upd.below hu91 (by omega))
          have hb6 := Box.upd hb6 hu91 (by omega)
          have hb21 := Box.upd hb21 hu91 (by omega)
          have hz94 := (hu91).size
          have hb46 : Box w90 b43 [.int .i64 r37.period_, .int .i64 r37.edges_.e1, .int .i64 r37.edges_.e0] 84 := hb92
          refine TL.done ?_
          refine NX.seq ?_
          refine WC.seq ?_
          refine WC.region ?_
          refine TL.yld rfl rfl (yld_loadN (us := [.int .i64 r37.period_, .int .i64 r37.edges_.e1, .int .i64 r37.edges_.e0]) rfl ag_84 rfl (Box.cells hb46) cn_84) ?_
          refine TL.eff rfl rfl (eff_store rfl rfl rfl hb6 cn_84 rfl rfl) ?_
          rintro _ w95 ⟨hu96, hb97⟩
          have he98 : Ext w w95 := Below.trans he93 (Upd.below hu96 (by omega))
          have hb21 := Box.upd hb21 hu96 (by omega)
          have hb46 := Box.upd hb46 hu96 (by omega)
          have hz99 := (hu96).size
          have hb6 : Box w95 b3 [.int .i64 r37.period_, .int .i64 r37.edges_.e1, .int .i64 r37.edges_.e0] 84 := hb97
          refine TL.done ?_
          refine NX.seq ?_
          refine WC.ret' ?_
          obtain rfl := Option.some.inj hF
          exact NX.end (rs := [.cell 4 84]) (vs := [.agg #[.int .i64 r37.period_, .int .i64 r37.edges_.e1, .int .i64 r37.edges_.e0]]) rfl ⟨⟨b3, rfl, box_load ag_84 cn_84 hb6⟩, trivial⟩ ⟨_, rfl, rfl, he98⟩
        · intro hc100
          replace hF := bif_f hc100 hF
          refine WC.skip' ?_
          refine NX.seq ?_
          refine WC.seq ?_
          refine WC.region ?_
          refine TL.yld rfl rfl (yld_loadN (us := [.int .i64 r37.period_, .int .i64 r37.edges_.e0, .int .i64 r37.edges_.e1]) rfl ag_84 rfl (Box.cells hb46) cn_84) ?_
          refine TL.eff rfl rfl (eff_store rfl rfl rfl hb6 cn_84 rfl rfl) ?_
          rintro _ w101 ⟨hu102, hb103⟩
          have he104 : Ext w w101 := Below.trans he53 (Upd.below hu102 (by omega))
          have hb21 := Box.upd hb21 hu102 (by omega)
          have hb46 := Box.upd hb46 hu102 (by omega)
          have hz105 := (hu102).size
          have hb6 : Box w101 b3 [.int .i64 r37.period_, .int .i64 r37.edges_.e0, .int .i64 r37.edges_.e1] 84 := hb103
          refine TL.done ?_
          refine NX.seq ?_
          refine WC.ret' ?_
          obtain rfl := Option.some.inj hF
          exact NX.end (rs := [.cell 4 84]) (vs := [.agg #[.int .i64 r37.period_, .int .i64 r37.edges_.e0, .int .i64 r37.edges_.e1]]) rfl ⟨⟨b3, rfl, box_load ag_84 cn_84 hb6⟩, trivial⟩ ⟨_, rfl, rfl, he104⟩
termination_by n

-- (loop.example/g00861/impl.Clock).isPrimary
def F_impl_Clock_isPrimary (n : Nat) (a0_c : S_Clock) : Option Bool := (Option.bind (F_impl_within n a0_c.Period 2 100000) fun r8 => (Option.bind (bif r8 then (Option.bind (F_impl_within n a0_c.RiseAt 0 (IntKind.wrap IntKind.i64 (a0_c.Period - 1))) fun r14 => (some r14)) else (some false)) fun c14 => (Option.bind (bif c14 then (Option.bind (F_impl_within n a0_c.FallAt 0 (IntKind.wrap IntKind.i64 (a0_c.Period - 1))) fun r27 => (some r27)) else (some false)) fun c27 => (some ((((((c27 && ((a0_c.RiseAt != a0_c.FallAt)))) && ((a0_c.Divide == 1)))) && (!a0_c.Invert)))))))
set_option maxHeartbeats 40000000 in
theorem W_impl_Clock_isPrimary {n : Nat} {a0_c : S_Clock} {r : Bool} {w : World} (hF : F_impl_Clock_isPrimary n a0_c = some r) :
    Calls Tryd.prog 149 [.agg #[.string a0_c.Name, .int .i64 a0_c.Place, .int .i64 a0_c.Period, .int .i64 a0_c.RiseAt, .int .i64 a0_c.FallAt, .int .i64 a0_c.Source, .int .i64 a0_c.Divide, .bool a0_c.Invert, .int .i64 a0_c.EarlyLatency, .int .i64 a0_c.LateLatency, .int .i64 a0_c.Uncertainty]].toArray w (Ret fun u w2 => u = .bool r ∧ Ext w w2) := by
  refine calls_of Tryd.func149 rfl Tryd.ntmps149 ?_
  have he0 : Ext w w := Ext.refl w
  unfold F_impl_Clock_isPrimary at hF
  refine WC.seq ?_
  refine WC.region ?_
  refine TL.eff rfl rfl (eff_box rfl rfl) ?_
  rintro _ w2 ⟨b1, rfl, hn3⟩
  obtain ⟨hn3e, hn3s, hn3x, hb4⟩ := hn3
  have hb4 : Box w2 b1 [.string a0_c.Name, .int .i64 a0_c.Place, .int .i64 a0_c.Period, .int .i64 a0_c.RiseAt, .int .i64 a0_c.FallAt, .int .i64 a0_c.Source, .int .i64 a0_c.Divide, .bool a0_c.Invert, .int .i64 a0_c.EarlyLatency, .int .i64 a0_c.LateLatency, .int .i64 a0_c.Uncertainty] 75 := hb4
  have he6 : Ext w w2 := Ext.trans he0 hn3x
  have hz7 := (hn3x).size
  have hlo5 : w.heap.size ≤ b1 := by rw [hn3e]; exact (he0).size
  refine TL.yld rfl rfl (yld_assign rfl rfl) ?_
  refine TL.done ?_
  refine NX.seq ?_
  refine WC.seq ?_
  refine WC.region ?_
  refine TL.yld rfl rfl (yld_fieldAddr rfl fo_75_2 rfl) ?_
  refine TL.yld rfl rfl (yld_load1 2 rfl ag_2 rfl (Box.cells hb4) rfl rfl) ?_
  obtain ⟨r8, hr9, hF⟩ := bsome hF
  refine TL.eff rfl rfl (eff_call rfl gf_54 rfl (W_impl_within hr9)) ?_
  rintro _ w10 ⟨rfl, hx11⟩
  have he12 : Ext w w10 := Ext.trans he6 hx11
  have hb4 := Box.ext hb4 hx11
  have hz13 := (hx11).size
  refine TL.yld rfl rfl (yld_move rfl rfl) ?_
  obtain ⟨c14, hb15, hF⟩ := bsome hF
  refine TL.cut 7 [(1, .pointer (some ⟨b1, 0, none⟩)), (13, .bool c14)] (fun w' => Ext w10 w') ?_ ?_
  · rcases Bool.eq_false_or_eq_true r8 with hg16 | hg16
    ·
      rw [hg16] at hb15; simp only [cond_true, cond_false] at hb15
      replace hF := hb15
      refine TL.gy (j := 3) (t := 6) rfl rfl rfl hg16 rfl (yld_fieldAddr rfl fo_75_3 rfl) ?_
      refine TL.gy (j := 3) (t := 6) rfl rfl rfl hg16 rfl (yld_load1 3 rfl ag_2 rfl (Box.cells hb4) rfl rfl) ?_
      refine TL.gy (j := 3) (t := 6) rfl rfl rfl hg16 rfl (yld_fieldAddr rfl fo_75_2 rfl) ?_
      refine TL.gy (j := 3) (t := 6) rfl rfl rfl hg16 rfl (yld_load1 2 rfl ag_2 rfl (Box.cells hb4) rfl rfl) ?_
      refine TL.gy (j := 3) (t := 6) rfl rfl rfl hg16 rfl (yld_sub rfl rfl rfl) ?_
      obtain ⟨r17, hr18, hF⟩ := bsome hF
      refine TL.ge (j := 3) (t := 6) rfl rfl rfl hg16 rfl (eff_call rfl gf_54 rfl (W_impl_within hr18)) ?_
      rintro _ w19 ⟨rfl, hx20⟩
      have he21 : Ext w w19 := Ext.trans he12 hx20
      have hb4 := Box.ext hb4 hx20
      have hz22 := (hx20).size
      obtain rfl := Option.some.inj hF
      refine TL.yld rfl rfl (yld_pick_t rfl rfl hg16 rfl) ?_
      exact TL.nil fun a h => ⟨h.weaken ⟨rfl, rfl, trivial⟩, hx20⟩
    ·
      rw [hg16] at hb15; simp only [cond_true, cond_false] at hb15
      refine TL.gnu (j := 3) (t := 6) rfl rfl rfl hg16 rfl ?_
      refine TL.gnu (j := 3) (t := 6) rfl rfl rfl hg16 rfl ?_
      refine TL.gnu (j := 3) (t := 6) rfl rfl rfl hg16 rfl ?_
      refine TL.gnu (j := 3) (t := 6) rfl rfl rfl hg16 rfl ?_
      refine TL.gnu (j := 3) (t := 6) rfl rfl rfl hg16 rfl ?_
      refine TL.gnu (j := 3) (t := 6) rfl rfl rfl hg16 rfl ?_
      obtain rfl := Option.some.inj hb15
      refine TL.yld rfl rfl (yld_pick_f rfl rfl hg16 rfl) ?_
      exact TL.nil fun a h => ⟨h.weaken ⟨rfl, rfl, trivial⟩, Ext.refl _⟩
  intro w23 hx24
  have he25 : Ext w w23 := Ext.trans he12 hx24
  have hb4 := Box.ext hb4 hx24
  have hz26 := (hx24).size
  refine TL.yld rfl rfl (yld_move rfl rfl) ?_
  obtain ⟨c27, hb28, hF⟩ := bsome hF
  refine TL.cut 7 [(1, .pointer (some ⟨b1, 0, none⟩)), (21, .bool c27)] (fun w' => Ext w23 w') ?_ ?_
  · rcases Bool.eq_false_or_eq_true c14 with hg29 | hg29
    ·
      rw [hg29] at hb28; simp only [cond_true, cond_false] at hb28
      replace hF := hb28
      refine TL.gy (j := 11) (t := 14) rfl rfl rfl hg29 rfl (yld_fieldAddr rfl fo_75_4 rfl) ?_
      refine TL.gy (j := 11) (t := 14) rfl rfl rfl hg29 rfl (yld_load1 4 rfl ag_2 rfl (Box.cells hb4) rfl rfl) ?_
      refine TL.gy (j := 11) (t := 14) rfl rfl rfl hg29 rfl (yld_fieldAddr rfl fo_75_2 rfl) ?_
      refine TL.gy (j := 11) (t := 14) rfl rfl rfl hg29 rfl (yld_load1 2 rfl ag_2 rfl (Box.cells hb4) rfl rfl) ?_
      refine TL.gy (j := 11) (t := 14) rfl rfl rfl hg29 rfl (yld_sub rfl rfl rfl) ?_
      obtain ⟨r30, hr31, hF⟩ := bsome hF
      refine TL.ge (j := 11) (t := 14) rfl rfl rfl hg29 rfl (eff_call rfl gf_54 rfl (W_impl_within hr31)) ?_
      rintro _ w32 ⟨rfl, hx33⟩
      have he34 : Ext w w32 := Ext.trans he25 hx33
      have hb4 := Box.ext hb4 hx33
      have hz35 := (hx33).size
      obtain rfl := Option.some.inj hF
      refine TL.yld rfl rfl (yld_pick_t rfl rfl hg29 rfl) ?_
      exact TL.nil fun a h => ⟨h.weaken ⟨rfl, rfl, trivial⟩, hx33⟩
    ·
      rw [hg29] at hb28; simp only [cond_true, cond_false] at hb28
      refine TL.gnu (j := 11) (t := 14) rfl rfl rfl hg29 rfl ?_
      refine TL.gnu (j := 11) (t := 14) rfl rfl rfl hg29 rfl ?_
      refine TL.gnu (j := 11) (t := 14) rfl rfl rfl hg29 rfl ?_
      refine TL.gnu (j := 11) (t := 14) rfl rfl rfl hg29 rfl ?_
      refine TL.gnu (j := 11) (t := 14) rfl rfl rfl hg29 rfl ?_
      refine TL.gnu (j := 11) (t := 14) rfl rfl rfl hg29 rfl ?_
      obtain rfl := Option.some.inj hb28
      refine TL.yld rfl rfl (yld_pick_f rfl rfl hg29 rfl) ?_
      exact TL.nil fun a h => ⟨h.weaken ⟨rfl, rfl, trivial⟩, Ext.refl _⟩
  intro w36 hx37
  have he38 : Ext w w36 := Ext.trans he25 hx37
  have hb4 := Box.ext hb4 hx37
  have hz39 := (hx37).size
  refine TL.yld rfl rfl (yld_move rfl rfl) ?_
  refine TL.cut 6 [(1, .pointer (some ⟨b1, 0, none⟩)), (28, .bool ((c27 && ((a0_c.RiseAt != a0_c.FallAt)))))] (fun w' => Ext w36 w') ?_ ?_
  · rcases Bool.eq_false_or_eq_true c27 with hg40 | hg40
    ·
      refine TL.gy (j := 19) (t := 22) rfl rfl rfl hg40 rfl (yld_fieldAddr rfl fo_75_3 rfl) ?_
      refine TL.gy (j := 19) (t := 22) rfl rfl rfl hg40 rfl (yld_load1 3 rfl ag_2 rfl (Box.cells hb4) rfl rfl) ?_
      refine TL.gy (j := 19) (t := 22) rfl rfl rfl hg40 rfl (yld_fieldAddr rfl fo_75_4 rfl) ?_
      refine TL.gy (j := 19) (t := 22) rfl rfl rfl hg40 rfl (yld_load1 4 rfl ag_2 rfl (Box.cells hb4) rfl rfl) ?_
      refine TL.gy (j := 19) (t := 22) rfl rfl rfl hg40 rfl (yld_neq rfl rfl rfl) ?_
      refine TL.yld rfl rfl (yld_and_t rfl rfl hg40 rfl) ?_
      exact TL.nil fun a h => ⟨h.weaken ⟨rfl, rfl, trivial⟩, Ext.refl _⟩
    ·
      refine TL.gnu (j := 19) (t := 22) rfl rfl rfl hg40 rfl ?_
      refine TL.gnu (j := 19) (t := 22) rfl rfl rfl hg40 rfl ?_
      refine TL.gnu (j := 19) (t := 22) rfl rfl rfl hg40 rfl ?_
      refine TL.gnu (j := 19) (t := 22) rfl rfl rfl hg40 rfl ?_
      refine TL.gnu (j := 19) (t := 22) rfl rfl rfl hg40 rfl ?_
      refine TL.yld rfl rfl (yld_and_f (b2 := (a0_c.RiseAt != a0_c.FallAt)) rfl rfl hg40 rfl) ?_
      exact TL.nil fun a h => ⟨h.weaken ⟨rfl, rfl, trivial⟩, Ext.refl _⟩
  intro w41 hx42
  have he43 : Ext w w41 := Ext.trans he38 hx42
  have hb4 := Box.ext hb4 hx42
  have hz44 := (hx42).size
  refine TL.yld rfl rfl (yld_move rfl rfl) ?_
  refine TL.cut 4 [(1, .pointer (some ⟨b1, 0, none⟩)), (33, .bool ((((c27 && ((a0_c.RiseAt != a0_c.FallAt)))) && ((a0_c.Divide == 1)))))] (fun w' => Ext w41 w') ?_ ?_
  · rcases Bool.eq_false_or_eq_true ((c27 && ((a0_c.RiseAt != a0_c.FallAt)))) with hg45 | hg45
    ·
      refine TL.gy (j := 26) (t := 29) rfl rfl rfl hg45 rfl (yld_fieldAddr rfl fo_75_6 rfl) ?_
      refine TL.gy (j := 26) (t := 29) rfl rfl rfl hg45 rfl (yld_load1 6 rfl ag_2 rfl (Box.cells hb4) rfl rfl) ?_
      refine TL.gy (j := 26) (t := 29) rfl rfl rfl hg45 rfl (yld_eql rfl rfl rfl) ?_
      refine TL.yld rfl rfl (yld_and_t rfl rfl hg45 rfl) ?_
      exact TL.nil fun a h => ⟨h.weaken ⟨rfl, rfl, trivial⟩, Ext.refl _⟩
    ·
      refine TL.gnu (j := 26) (t := 29) rfl rfl rfl hg45 rfl ?_
      refine TL.gnu (j := 26) (t := 29) rfl rfl rfl hg45 rfl ?_
      refine TL.gnu (j := 26) (t := 29) rfl rfl rfl hg45 rfl ?_
      refine TL.yld rfl rfl (yld_and_f (b2 := (a0_c.Divide == 1)) rfl rfl hg45 rfl) ?_
      exact TL.nil fun a h => ⟨h.weaken ⟨rfl, rfl, trivial⟩, Ext.refl _⟩
  intro w46 hx47
  have he48 : Ext w w46 := Ext.trans he43 hx47
  have hb4 := Box.ext hb4 hx47
  have hz49 := (hx47).size
  refine TL.yld rfl rfl (yld_move rfl rfl) ?_
  refine TL.cut 4 [(38, .bool ((((((c27 && ((a0_c.RiseAt != a0_c.FallAt)))) && ((a0_c.Divide == 1)))) && (!a0_c.Invert))))] (fun w' => Ext w46 w') ?_ ?_
  · rcases Bool.eq_false_or_eq_true ((((c27 && ((a0_c.RiseAt != a0_c.FallAt)))) && ((a0_c.Divide == 1)))) with hg50 | hg50
    ·
      refine TL.gy (j := 31) (t := 34) rfl rfl rfl hg50 rfl (yld_fieldAddr rfl fo_75_7 rfl) ?_
      refine TL.gy (j := 31) (t := 34) rfl rfl rfl hg50 rfl (yld_load1 7 rfl ag_4 rfl (Box.cells hb4) rfl rfl) ?_
      refine TL.gy (j := 31) (t := 34) rfl rfl rfl hg50 rfl (yld_not rfl rfl) ?_
      refine TL.yld rfl rfl (yld_and_t rfl rfl hg50 rfl) ?_
      exact TL.nil fun a h => ⟨h.weaken ⟨rfl, trivial⟩, Ext.refl _⟩
    ·
      refine TL.gnu (j := 31) (t := 34) rfl rfl rfl hg50 rfl ?_
      refine TL.gnu (j := 31) (t := 34) rfl rfl rfl hg50 rfl ?_
      refine TL.gnu (j := 31) (t := 34) rfl rfl rfl hg50 rfl ?_
      refine TL.yld rfl rfl (yld_and_f (b2 := (!a0_c.Invert)) rfl rfl hg50 rfl) ?_
      exact TL.nil fun a h => ⟨h.weaken ⟨rfl, trivial⟩, Ext.refl _⟩
  intro w51 hx52
  have he53 : Ext w w51 := Ext.trans he48 hx52
  have hb4 := Box.ext hb4 hx52
  have hz54 := (hx52).size
  refine TL.yld rfl rfl (yld_assign rfl rfl) ?_
  refine TL.done ?_
  refine NX.seq ?_
  refine WC.ret' ?_
  obtain rfl := Option.some.inj hF
  exact NX.end (rs := [.tmp 2]) (vs := [.bool ((((((c27 && ((a0_c.RiseAt != a0_c.FallAt)))) && ((a0_c.Divide == 1)))) && (!a0_c.Invert)))]) rfl ⟨rfl, trivial⟩ ⟨_, rfl, rfl, he53⟩

-- loop.example/g00861/impl.isClock
def F_impl_isClock (n : Nat) (a0_list : List S_Clock) (a1_k : Int) : Option Bool := (Option.bind (getI a0_list a1_k) fun x3 => (Option.bind (bif ((((((decide (x3.Place < 0)) || (decide (x3.EarlyLatency < 0)))) || (decide (x3.EarlyLatency > x3.LateLatency)))) || (decide (x3.LateLatency > 100000))) then (some true) else (Option.bind (F_impl_within n x3.Uncertainty 0 100000) fun r38 => (some (!r38)))) fun c38 => (bif c38 then (some false) else (bif (x3.Source == (-1)) then (Option.bind (F_impl_Clock_isPrimary n x3) fun r54 => (some r54)) else (Option.bind (F_impl_within n x3.Source 0 (IntKind.wrap IntKind.i64 (a1_k - 1))) fun r61 => (Option.bind (bif r61 then (Option.bind (F_impl_within n x3.Divide 1 8) fun r67 => (some r67)) else (some false)) fun c67 => (Option.bind (bif (((((c67 && ((x3.Period == 0)))) && ((x3.RiseAt == 0)))) && ((x3.FallAt == 0))) then (Option.bind (F_impl_waveOf n a0_list a1_k) fun r95 => (some (decide (r95.period_ ≤ 100000)))) else (some false)) fun c95 => (some c95))))))))
set_option maxHeartbeats 40000000 in
theorem W_impl_isClock {n : Nat} {a0_list : List S_Clock} {a1_k : Int} {r : Bool} {w : World} {v1 : Value} (hF : F_impl_isClock n a0_list a1_k = some r) (ha2 : slRep C_Clock w (Iv 0 w.heap.size) a0_list v1) :
    Calls Tryd.prog 134 [v1, .int .i64 a1_k].toArray w (Ret fun u w2 => u = .bool r ∧ Ext w w2) := by
  refine calls_of Tryd.func134 rfl Tryd.ntmps134 ?_
  have he0 : Ext w w := Ext.refl w
  unfold F_impl_isClock at hF
  refine WC.seq ?_
  refine WC.region ?_
  refine TL.yld rfl rfl (yld_assign rfl rfl) ?_
  refine TL.done ?_
  refine NX.seq ?_
  refine WC.seq ?_
  refine WC.region ?_
  refine TL.yld rfl rfl (yld_move rfl rfl) ?_
  refine TL.yld rfl rfl (yld_move rfl rfl) ?_
  obtain ⟨x3, hy4, hF⟩ := bsome hF
  refine TL.ye rfl rfl (ye_index (c := C_Clock) rfl Tryd.underlying26 cn_75 rfl rfl (slRep.old ha2 he0 (Nat.le_refl _)) hy4) ?_
  rintro _ ⟨b5, o6, us7, rfl, hib10, hr8, hcl9⟩
  have hib10 : 0 ≤ b5 ∧ b5 < w.heap.size := ⟨hib10.1, by have := hib10.2; omega⟩
  obtain rfl := C_Clock_open hr8
  refine TL.yld rfl rfl (yld_loadN (us := [.string x3.Name, .int .i64 x3.Place, .int .i64 x3.Period, .int .i64 x3.RiseAt, .int .i64 x3.FallAt, .int .i64 x3.Source, .int .i64 x3.Divide, .bool x3.Invert, .int .i64 x3.EarlyLatency, .int .i64 x3.LateLatency, .int .i64 x3.Uncertainty]) rfl ag_75 rfl hcl9 cn_75) ?_
  refine TL.eff rfl rfl (eff_alloc rfl zn_75) ?_
  rintro _ w12 ⟨b11, rfl, hn13⟩
  obtain ⟨hn13e, hn13s, hn13x, hb14⟩ := hn13
  have hb14 : Box w12 b11 [.string ByteArray.empty, .int .i64 0, .int .i64 0, .int .i64 0, .int .i64 0, .int .i64 0, .int .i64 0, .bool false, .int .i64 0, .int .i64 0, .int .i64 0] 75 := hb14
  have he16 : Ext w w12 := Ext.trans he0 hn13x
  have hz17 := (hn13x).size
  have hlo15 : w.heap.size ≤ b11 := by rw [hn13e]; exact (he0).size
  refine TL.eff rfl rfl (eff_store rfl rfl rfl hb14 cn_75 rfl rfl) ?_
  rintro _ w18 ⟨hu19, hb20⟩
  have he21 : Ext w w18 := Below.trans he16 (Upd.below hu19 (by omega))
  have hz22 := (hu19).size
  have hb14 : Box w18 b11 [.string x3.Name, .int .i64 x3.Place, .int .i64 x3.Period, .int .i64 x3.RiseAt, .int .i64 x3.FallAt, .int .i64 x3.Source, .int .i64 x3.Divide, .bool x3.Invert, .int .i64 x3.EarlyLatency, .int .i64 x3.LateLatency, .int .i64 x3.Uncertainty] 75 := hb20
  refine TL.done ?_
  refine NX.seq ?_
  refine WC.seq ?_
  refine WC.seq ?_
  refine WC.region ?_
  refine TL.yld rfl rfl (yld_fieldAddr rfl fo_75_1 rfl) ?_
  refine TL.yld rfl rfl (yld_load1 1 rfl ag_2 rfl (Box.cells hb14) rfl rfl) ?_
  refine TL.yld rfl rfl (yld_lss rfl rfl rfl) ?_
  refine TL.yld rfl rfl (yld_move rfl rfl) ?_
  refine TL.cut 4 [(0, v1), (1, .int .i64 a1_k), (5, .pointer (some ⟨b11, 0, none⟩)), (17, .bool (((decide (x3.Place < 0)) || (decide (x3.EarlyLatency < 0)))))] (fun w' => Ext w18 w') ?_ ?_
  · rcases Bool.eq_false_or_eq_true (decide (x3.Place < 0)) with hg23 | hg23
    ·
      refine TL.gnu (j := 3) (t := 13) rfl rfl rfl hg23 rfl ?_
      refine TL.gnu (j := 3) (t := 13) rfl rfl rfl hg23 rfl ?_
      refine TL.gnu (j := 3) (t := 13) rfl rfl rfl hg23 rfl ?_
      refine TL.yld rfl rfl (yld_or_t (b2 := decide (x3.EarlyLatency < 0)) rfl rfl hg23 rfl) ?_
      exact TL.nil fun a h => ⟨h.weaken ⟨rfl, rfl, rfl, rfl, trivial⟩, Ext.refl _⟩
    ·
      refine TL.gy (j := 3) (t := 13) rfl rfl rfl hg23 rfl (yld_fieldAddr rfl fo_75_8 rfl) ?_
      refine TL.gy (j := 3) (t := 13) rfl rfl rfl hg23 rfl (yld_load1 8 rfl ag_2 rfl (Box.cells hb14) rfl rfl) ?_
      refine TL.gy (j := 3) (t := 13) rfl rfl rfl hg23 rfl (yld_lss rfl rfl rfl) ?_
      refine TL.yld rfl rfl (yld_or_f rfl rfl hg23 rfl) ?_
      exact TL.nil fun a h => ⟨h.weaken ⟨rfl, rfl, rfl, rfl, trivial⟩, Ext.refl _⟩
  intro w24 hx25
  have he26 : Ext w w24 := Ext.trans he21 hx25
  have hb14 := Box.ext hb14 hx25
  have hz27 := (hx25).size
  refine TL.yld rfl rfl (yld_move rfl rfl) ?_
  refine TL.cut 6 [(0, v1), (1, .int .i64 a1_k), (5, .pointer (some ⟨b11, 0, none⟩)), (24, .bool (((((decide (x3.Place < 0)) || (decide (x3.EarlyLatency < 0)))) || (decide (x3.EarlyLatency > x3.LateLatency)))))] (fun w' => Ext w24 w') ?_ ?_
  · rcases Bool.eq_false_or_eq_true (((decide (x3.Place < 0)) || (decide (x3.EarlyLatency < 0)))) with hg28 | hg28
    ·
      refine TL.gnu (j := 8) (t := 18) rfl rfl rfl hg28 rfl ?_
      refine TL.gnu (j := 8) (t := 18) rfl rfl rfl hg28 rfl ?_
      refine TL.gnu (j := 8) (t := 18) rfl rfl rfl hg28 rfl ?_
      refine TL.gnu (j := 8) (t := 18) rfl rfl rfl hg28 rfl ?_
      refine TL.gnu (j := 8) (t := 18) rfl rfl rfl hg28 rfl ?_
      refine TL.yld rfl rfl (yld_or_t (b2 := decide (x3.EarlyLatency > x3.LateLatency)) rfl rfl hg28 rfl) ?_
      exact TL.nil fun a h => ⟨h.weaken ⟨rfl, rfl, rfl, rfl, trivial⟩, Ext.refl _⟩
    ·
      refine TL.gy (j := 8) (t := 18) rfl rfl rfl hg28 rfl (yld_fieldAddr rfl fo_75_8 rfl) ?_
      refine TL.gy (j := 8) (t := 18) rfl rfl rfl hg28 rfl (yld_load1 8 rfl ag_2 rfl (Box.cells hb14) rfl rfl) ?_
      refine TL.gy (j := 8) (t := 18) rfl rfl rfl hg28 rfl (yld_fieldAddr rfl fo_75_9 rfl) ?_
      refine TL.gy (j := 8) (t := 18) rfl rfl rfl hg28 rfl (yld_load1 9 rfl ag_2 rfl (Box.cells hb14) rfl rfl) ?_
      refine TL.gy (j := 8) (t := 18) rfl rfl rfl hg28 rfl (yld_gtr rfl rfl rfl) ?_
      refine TL.yld rfl rfl (yld_or_f rfl rfl hg28 rfl) ?_
      exact TL.nil fun a h => ⟨h.weaken ⟨rfl, rfl, rfl, rfl, trivial⟩, Ext.refl _⟩
  intro w29 hx30
  have he31 : Ext w w29 := Ext.trans he26 hx30
  have hb14 := Box.ext hb14 hx30
  have hz32 := (hx30).size
  refine TL.yld rfl rfl (yld_move rfl rfl) ?_
  refine TL.cut 4 [(0, v1), (1, .int .i64 a1_k), (5, .pointer (some ⟨b11, 0, none⟩)), (29, .bool (((((((decide (x3.Place < 0)) || (decide (x3.EarlyLatency < 0)))) || (decide (x3.EarlyLatency > x3.LateLatency)))) || (decide (x3.LateLatency > 100000)))))] (fun w' => Ext w29 w') ?_ ?_
  · rcases Bool.eq_false_or_eq_true (((((decide (x3.Place < 0)) || (decide (x3.EarlyLatency < 0)))) || (decide (x3.EarlyLatency > x3.LateLatency)))) with hg33 | hg33
    ·
      refine TL.gnu (j := 15) (t := 25) rfl rfl rfl hg33 rfl ?_
      refine TL.gnu (j := 15) (t := 25) rfl rfl rfl hg33 rfl ?_
      refine TL.gnu (j := 15) (t := 25) rfl rfl rfl hg33 rfl ?_
      refine TL.yld rfl rfl (yld_or_t (b2 := decide (x3.LateLatency > 100000)) rfl rfl hg33 rfl) ?_
      exact TL.nil fun a h => ⟨h.weaken ⟨rfl, rfl, rfl, rfl, trivial⟩, Ext.refl _⟩
    ·
      refine TL.gy (j := 15) (t := 25) rfl rfl rfl hg33 rfl (yld_fieldAddr rfl fo_75_9 rfl) ?_
      refine TL.gy (j := 15) (t := 25) rfl rfl rfl hg33 rfl (yld_load1 9 rfl ag_2 rfl (Box.cells hb14) rfl rfl) ?_
      refine TL.gy (j := 15) (t := 25) rfl rfl rfl hg33 rfl (yld_gtr rfl rfl rfl) ?_
      refine TL.yld rfl rfl (yld_or_f rfl rfl hg33 rfl) ?_
      exact TL.nil fun a h => ⟨h.weaken ⟨rfl, rfl, rfl, rfl, trivial⟩, Ext.refl _⟩
  intro w34 hx35
  have he36 : Ext w w34 := Ext.trans he31 hx35
  have hb14 := Box.ext hb14 hx35
  have hz37 := (hx35).size
  refine TL.yld rfl rfl (yld_move rfl rfl) ?_
  obtain ⟨c38, hb39, hF⟩ := bsome hF
  refine TL.cut 5 [(0, v1), (1, .int .i64 a1_k), (5, .pointer (some ⟨b11, 0, none⟩)), (35, .bool c38)] (fun w' => Ext w34 w') ?_ ?_
  · rcases Bool.eq_false_or_eq_true (((((((decide (x3.Place < 0)) || (decide (x3.EarlyLatency < 0)))) || (decide (x3.EarlyLatency > x3.LateLatency)))) || (decide (x3.LateLatency > 100000)))) with hg40 | hg40
    ·
      rw [hg40] at hb39; simp only [cond_true, cond_false] at hb39
      refine TL.gnu (j := 20) (t := 30) rfl rfl rfl hg40 rfl ?_
      refine TL.gnu (j := 20) (t := 30) rfl rfl rfl hg40 rfl ?_
      refine TL.gnu (j := 20) (t := 30) rfl rfl rfl hg40 rfl ?_
      refine TL.gnu (j := 20) (t := 30) rfl rfl rfl hg40 rfl ?_
      obtain rfl := Option.some.inj hb39
      refine TL.yld rfl rfl (yld_pick_t rfl rfl hg40 rfl) ?_
      exact TL.nil fun a h => ⟨h.weaken ⟨rfl, rfl, rfl, rfl, trivial⟩, Ext.refl _⟩
    ·
      rw [hg40] at hb39; simp only [cond_true, cond_false] at hb39
      replace hF := hb39
      refine TL.gy (j := 20) (t := 30) rfl rfl rfl hg40 rfl (yld_fieldAddr rfl fo_75_10 rfl) ?_
      refine TL.gy (j := 20) (t := 30) rfl rfl rfl hg40 rfl (yld_load1 10 rfl ag_2 rfl (Box.cells hb14) rfl rfl) ?_
      obtain ⟨r41, hr42, hF⟩ := bsome hF
      refine TL.ge (j := 20) (t := 30) rfl rfl rfl hg40 rfl (eff_call rfl gf_54 rfl (W_impl_within hr42)) ?_
      rintro _ w43 ⟨rfl, hx44⟩
      have he45 : Ext w w43 := Ext.trans he36 hx44
      have hb14 := Box.ext hb14 hx44
      have hz46 := (hx44).size
      refine TL.gy (j := 20) (t := 30) rfl rfl rfl hg40 rfl (yld_not rfl rfl) ?_
      obtain rfl := Option.some.inj hF
      refine TL.yld rfl rfl (yld_pick_f rfl rfl hg40 rfl) ?_
      exact TL.nil fun a h => ⟨h.weaken ⟨rfl, rfl, rfl, rfl, trivial⟩, hx44⟩
  intro w47 hx48
  have he49 : Ext w w47 := Ext.trans he36 hx48
  have hb14 := Box.ext hb14 hx48
  have hz50 := (hx48).size
  refine TL.done ?_
  refine NX.seq ?_
  refine WC.cond rfl ?_ ?_
  · intro hc51
    replace hF := bif_t hc51 hF
    refine WC.seq ?_
    refine WC.region ?_
    refine TL.yld rfl rfl (yld_assign rfl rfl) ?_
    refine TL.done ?_
    refine NX.seq ?_
    refine WC.ret' ?_
    refine NX.then_r ?_
    obtain rfl := Option.some.inj hF
    exact NX.end (rs := [.tmp 4]) (vs := [.bool false]) rfl ⟨rfl, trivial⟩ ⟨_, rfl, rfl, he49⟩
  · intro hc52
    replace hF := bif_f hc52 hF
    refine WC.skip' ?_
    refine NX.seq ?_
    refine WC.seq ?_
    refine WC.seq ?_
    refine WC.region ?_
    refine TL.yld rfl rfl (yld_fieldAddr rfl fo_75_5 rfl) ?_
    refine TL.yld rfl rfl (yld_load1 5 rfl ag_2 rfl (Box.cells hb14) rfl rfl) ?_
    refine TL.yld rfl rfl (yld_eql rfl rfl rfl) ?_
    refine TL.done ?_
    refine NX.seq ?_
    refine WC.cond rfl ?_ ?_
    · intro hc53
      replace hF := bif_t hc53 hF
      refine WC.seq ?_
      refine WC.region ?_
      refine TL.yld rfl rfl (yld_loadN (us := [.string x3.Name, .int .i64 x3.Place, .int .i64 x3.Period, .int .i64 x3.RiseAt, .int .i64 x3.FallAt, .int .i64 x3.Source, .int .i64 x3.Divide, .bool x3.Invert, .int .i64 x3.EarlyLatency, .int .i64 x3.LateLatency, .int .i64 x3.Uncertainty]) rfl ag_75 rfl (Box.cells hb14) cn_75) ?_
      obtain ⟨r54, hr55, hF⟩ := bsome hF
      refine TL.eff rfl rfl (eff_call rfl gf_149 rfl (W_impl_Clock_isPrimary hr55)) ?_
      rintro _ w56 ⟨rfl, hx57⟩
      have he58 : Ext w w56 := Ext.trans he49 hx57
      have hb14 := Box.ext hb14 hx57
      have hz59 := (hx57).size
      refine TL.yld rfl rfl (yld_assign rfl rfl) ?_
      refine TL.done ?_
      refine NX.seq ?_
      refine WC.ret' ?_
      refine NX.then_r ?_
      obtain rfl := Option.some.inj hF
      exact NX.end (rs := [.tmp 4]) (vs := [.bool r54]) rfl ⟨rfl, trivial⟩ ⟨_, rfl, rfl, he58⟩
    · intro hc60
      replace hF := bif_f hc60 hF
      refine WC.skip' ?_
      refine NX.seq ?_
      refine WC.seq ?_
      refine WC.region ?_
      refine TL.yld rfl rfl (yld_fieldAddr rfl fo_75_5 rfl) ?_
      refine TL.yld rfl rfl (yld_load1 5 rfl ag_2 rfl (Box.cells hb14) rfl rfl) ?_
      refine TL.yld rfl rfl (yld_move rfl rfl) ?_
      refine TL.yld rfl rfl (yld_sub rfl rfl rfl) ?_
      obtain ⟨r61, hr62, hF⟩ := bsome hF
      refine TL.eff rfl rfl (eff_call rfl gf_54 rfl (W_impl_within hr62)) ?_
      rintro _ w63 ⟨rfl, hx64⟩
      have he65 : Ext w w63 := Ext.trans he49 hx64
      have hb14 := Box.ext hb14 hx64
      have hz66 := (hx64).size
      refine TL.yld rfl rfl (yld_move rfl rfl) ?_
      obtain ⟨c67, hb68, hF⟩ := bsome hF
      refine TL.cut 4 [(0, v1), (1, .int .i64 a1_k), (5, .pointer (some ⟨b11, 0, none⟩)), (50, .bool c67)] (fun w' => Ext w63 w') ?_ ?_
      · rcases Bool.eq_false_or_eq_true r61 with hg69 | hg69
        ·
          rw [hg69] at hb68; simp only [cond_true, cond_false] at hb68
          replace hF := hb68
          refine TL.gy (j := 5) (t := 46) rfl rfl rfl hg69 rfl (yld_fieldAddr rfl fo_75_6 rfl) ?_
          refine TL.gy (j := 5) (t := 46) rfl rfl rfl hg69 rfl (yld_load1 6 rfl ag_2 rfl (Box.cells hb14) rfl rfl) ?_
          obtain ⟨r70, hr71, hF⟩ := bsome hF
          refine TL.ge (j := 5) (t := 46) rfl rfl rfl hg69 rfl (eff_call rfl gf_54 rfl (W_impl_within hr71)) ?_
          rintro _ w72 ⟨rfl, hx73⟩
          have he74 : Ext w w72 := Ext.trans he65 hx73
          have hb14 := Box.ext hb14 hx73
          have hz75 := (hx73).size
          obtain rfl := Option.some.inj hF
          refine TL.yld rfl rfl (yld_pick_t rfl rfl hg69 rfl) ?_
          exact TL.nil fun a h => ⟨h.weaken ⟨rfl, rfl, rfl, rfl, trivial⟩, hx73⟩
        ·
          rw [hg69] at hb68; simp only [cond_true, cond_false] at hb68
          refine TL.gnu (j := 5) (t := 46) rfl rfl rfl hg69 rfl ?_
          refine TL.gnu (j := 5) (t := 46) rfl rfl rfl hg69 rfl ?_
          refine TL.gnu (j := 5) (t := 46) rfl rfl rfl hg69 rfl ?_
          obtain rfl := Option.some.inj hb68
          refine TL.yld rfl rfl (yld_pick_f rfl rfl hg69 rfl) ?_
          exact TL.nil fun a h => ⟨h.weaken ⟨rfl, rfl, rfl, rfl, trivial⟩, Ext.refl _⟩
      intro w76 hx77
      have he78 : Ext w w76 := Ext.trans he65 hx77
      have hb14 := Box.ext hb14 hx77
      have hz79 := (hx77).size
      refine TL.yld rfl rfl (yld_move rfl rfl) ?_
      refine TL.cut 4 [(0, v1), (1, .int .i64 a1_k), (5, .pointer (some ⟨b11, 0, none⟩)), (55, .bool ((c67 && ((x3.Period == 0)))))] (fun w' => Ext w76 w') ?_ ?_
      · rcases Bool.eq_false_or_eq_true c67 with hg80 | hg80
        ·
          refine TL.gy (j := 10) (t := 51) rfl rfl rfl hg80 rfl (yld_fieldAddr rfl fo_75_2 rfl) ?_
          refine TL.gy (j := 10) (t := 51) rfl rfl rfl hg80 rfl (yld_load1 2 rfl ag_2 rfl (Box.cells hb14) rfl rfl) ?_
          refine TL.gy (j := 10) (t := 51) rfl rfl rfl hg80 rfl (yld_eql rfl rfl rfl) ?_
          refine TL.yld rfl rfl (yld_and_t rfl rfl hg80 rfl) ?_
          exact TL.nil fun a h => ⟨h.weaken ⟨rfl, rfl, rfl, rfl, trivial⟩, Ext.refl _⟩
        ·
          refine TL.gnu (j := 10) (t := 51) rfl rfl rfl hg80 rfl ?_
          refine TL.gnu (j := 10) (t := 51) rfl rfl rfl hg80 rfl ?_
          refine TL.gnu (j := 10) (t := 51) rfl rfl rfl hg80 rfl ?_
          refine TL.yld rfl rfl (yld_and_f (b2 := (x3.Period == 0)) rfl rfl hg80 rfl) ?_
          exact TL.nil fun a h => ⟨h.weaken ⟨rfl, rfl, rfl, rfl, trivial⟩, Ext.refl _⟩
      intro w81 hx82
      have he83 : Ext w w81 := Ext.trans he78 hx82
      have hb14 := Box.ext hb14 hx82
      have hz84 := (hx82).size
      refine TL.yld rfl rfl (yld_move rfl rfl) ?_
      refine TL.cut 4 [(0, v1), (1, .int .i64 a1_k), (5, .pointer (some ⟨b11, 0, none⟩)), (60, .bool ((((c67 && ((x3.Period == 0)))) && ((x3.RiseAt == 0)))))] (fun w' => Ext w81 w') ?_ ?_
      · rcases Bool.eq_false_or_eq_true ((c67 && ((x3.Period == 0)))) with hg85 | hg85
        ·
          refine TL.gy (j := 15) (t := 56) rfl rfl rfl hg85 rfl (yld_fieldAddr rfl fo_75_3 rfl) ?_
          refine TL.gy (j := 15) (t := 56) rfl rfl rfl hg85 rfl (yld_load1 3 rfl ag_2 rfl (Box.cells hb14) rfl rfl) ?_
          refine TL.gy (j := 15) (t := 56) rfl rfl rfl hg85 rfl (yld_eql rfl rfl rfl) ?_
          refine TL.yld rfl rfl (yld_and_t rfl rfl hg85 rfl) ?_
          exact TL.nil fun a h => ⟨h.weaken ⟨rfl, rfl, rfl, rfl, trivial⟩, Ext.refl _⟩
        ·
          refine TL.gnu (j := 15) (t := 56) rfl rfl rfl hg85 rfl ?_
          refine TL.gnu (j := 15) (t := 56) rfl rfl rfl hg85 rfl ?_
          refine TL.gnu (j := 15) (t := 56) rfl rfl rfl hg85 rfl ?_
          refine TL.yld rfl rfl (yld_and_f (b2 := (x3.RiseAt == 0)) rfl rfl hg85 rfl) ?_
          exact TL.nil fun a h => ⟨h.weaken ⟨rfl, rfl, rfl, rfl, trivial⟩, Ext.refl _⟩
      intro w86 hx87
      have he88 : Ext w w86 := Ext.trans he83 hx87
      have hb14 := Box.ext hb14 hx87
      have hz89 := (hx87).size
      refine TL.yld rfl rfl (yld_move rfl rfl) ?_
      refine TL.cut 4 [(0, v1), (1, .int .i64 a1_k), (65, .bool ((((((c67 && ((x3.Period == 0)))) && ((x3.RiseAt == 0)))) && ((x3.FallAt == 0)))))] (fun w' => Ext w86 w') ?_ ?_
      · rcases Bool.eq_false_or_eq_true ((((c67 && ((x3.Period == 0)))) && ((x3.RiseAt == 0)))) with hg90 | hg90
        ·
          refine TL.gy (j := 20) (t := 61) rfl rfl rfl hg90 rfl (yld_fieldAddr rfl fo_75_4 rfl) ?_
          refine TL.gy (j := 20) (t := 61) rfl rfl rfl hg90 rfl (yld_load1 4 rfl ag_2 rfl (Box.cells hb14) rfl rfl) ?_
          refine TL.gy (j := 20) (t := 61) rfl rfl rfl hg90 rfl (yld_eql rfl rfl rfl) ?_
          refine TL.yld rfl rfl (yld_and_t rfl rfl hg90 rfl) ?_
          exact TL.nil fun a h => ⟨h.weaken ⟨rfl, rfl, rfl, trivial⟩, Ext.refl _⟩
        ·
          refine TL.gnu (j := 20) (t := 61) rfl rfl rfl hg90 rfl ?_
          refine TL.gnu (j := 20) (t := 61) rfl rfl rfl hg90 rfl ?_
          refine TL.gnu (j := 20) (t := 61) rfl rfl rfl hg90 rfl ?_
          refine TL.yld rfl rfl (yld_and_f (b2 := (x3.FallAt == 0)) rfl rfl hg90 rfl) ?_
          exact TL.nil fun a h => ⟨h.weaken ⟨rfl, rfl, rfl, trivial⟩, Ext.refl _⟩
      intro w91 hx92
      have he93 : Ext w w91 := Ext.trans he88 hx92
      have hb14 := Box.ext hb14 hx92
      have hz94 := (hx92).size
      refine TL.yld rfl rfl (yld_move rfl rfl) ?_
      obtain ⟨c95, hb96, hF⟩ := bsome hF
      refine TL.cut 6 [(72, .bool c95)] (fun w' => Ext w91 w') ?_ ?_
      · rcases Bool.eq_false_or_eq_true ((((((c67 && ((x3.Period == 0)))) && ((x3.RiseAt == 0)))) && ((x3.FallAt == 0)))) with hg97 | hg97
        ·
          rw [hg97] at hb96; simp only [cond_true, cond_false] at hb96
          replace hF := hb96
          refine TL.gy (j := 25) (t := 66) rfl rfl rfl hg97 rfl (yld_move rfl rfl) ?_
          refine TL.gy (j := 25) (t := 66) rfl rfl rfl hg97 rfl (yld_move rfl rfl) ?_
          obtain ⟨r98, hr99, hF⟩ := bsome hF
          refine TL.ge (j := 25) (t := 66) rfl rfl rfl hg97 rfl (eff_call rfl gf_64 rfl (W_impl_waveOf hr99 ((slRep.old ha2 he93 (Nat.le_refl _)).wide (Nat.le_refl _) (he93).size))) ?_
          rintro _ w100 ⟨rfl, hx101⟩
          have he102 : Ext w w100 := Ext.trans he93 hx101
          have hb14 := Box.ext hb14 hx101
          have hz103 := (hx101).size
          refine TL.gy (j := 25) (t := 66) rfl rfl rfl hg97 rfl (yld_field1 rfl ft_84_0 ag_2 rfl rfl) ?_
          refine TL.gy (j := 25) (t := 66) rfl rfl rfl hg97 rfl (yld_leq rfl rfl rfl) ?_
          obtain rfl := Option.some.inj hF
          refine TL.yld rfl rfl (yld_pick_t rfl rfl hg97 rfl) ?_
          exact TL.nil fun a h => ⟨h.weaken ⟨rfl, trivial⟩, hx101⟩
        ·
          rw [hg97] at hb96; simp only [cond_true, cond_false] at hb96
          refine TL.gnu (j := 25) (t := 66) rfl rfl rfl hg97 rfl ?_
          refine TL.gnu (j := 25) (t := 66) rfl rfl rfl hg97 rfl ?_
          refine TL.gnu (j := 25) (t := 66) rfl rfl rfl hg97 rfl ?_
          refine TL.gnu (j := 25) (t := 66) rfl rfl rfl hg97 rfl ?_
          refine TL.gnu (j := 25) (t := 66) rfl rfl rfl hg97 rfl ?_
          obtain rfl := Option.some.inj hb96
          refine TL.yld rfl rfl (yld_pick_f rfl rfl hg97 rfl) ?_
          exact TL.nil fun a h => ⟨h.weaken ⟨rfl, trivial⟩, Ext.refl _⟩
      intro w104 hx105
      have he106 : Ext w w104 := Ext.trans he93 hx105
      have hb14 := Box.ext hb14 hx105
      have hz107 := (hx105).size
      refine TL.yld rfl rfl (yld_assign rfl rfl) ?_
      refine TL.done ?_
      refine NX.seq ?_
      refine WC.ret' ?_
      obtain rfl := Option.some.inj hF
      exact NX.end (rs := [.tmp 4]) (vs := [.bool c95]) rfl ⟨rfl, trivial⟩ ⟨_, rfl, rfl, he106⟩

-- strings.Trim, by the shelf's contract
def F_strings_Trim (n : Nat) (a0_s : ByteArray) (a1_cutset : ByteArray) : Option ByteArray := if a0_s.size ≤ 9223372036854775807 ∧ a1_cutset.size < 4294967281 ∧ (a1_cutset.data.toList.all fun b => decide (b.toNat < 128)) = true then some ⟨(Lib.trimS a0_s.data.toList a1_cutset.data.toList).toArray⟩ else none
theorem W_strings_Trim {n : Nat} {a0_s : ByteArray} {a1_cutset : ByteArray} {r : ByteArray} {w : World} (hF : F_strings_Trim n a0_s a1_cutset = some r) :
    Calls Tryd.prog 138 [.string a0_s, .string a1_cutset].toArray w (Ret fun u w2 => u = .string r ∧ Ext w w2) := by
  unfold F_strings_Trim at hF
  split at hF
  · rename_i h
    obtain rfl := Option.some.inj hF
    refine (Tryd.strings_Trim_ascii a0_s a1_cutset w h.1 h.2.1 (fun j b hb => of_decide_eq_true (List.all_eq_true.1 h.2.2 b (List.mem_of_getElem? hb)))).mono ?_
    rintro e w' ⟨rfl, hB⟩
    exact ⟨_, rfl, rfl, hB⟩
  · cases hF

-- strings.IndexByte, by the shelf's contract
def F_strings_IndexByte (n : Nat) (a0_s : ByteArray) (a1_c : Int) : Option Int := some (Lib.indexByte a0_s.data.toList a1_c.toNat.toUInt8)
theorem W_strings_IndexByte {n : Nat} {a0_s : ByteArray} {a1_c : Int} {r : Int} {w : World} (hF : F_strings_IndexByte n a0_s a1_c = some r) :
    Calls Tryd.prog 139 [.string a0_s, .int .u8 a1_c].toArray w (Ret fun u w2 => u = .int .i64 r ∧ Ext w w2) := by
  obtain rfl := Option.some.inj hF
  refine (Tryd.strings_IndexByte a0_s a1_c w).mono ?_
  rintro e w' ⟨rfl, rfl⟩
  exact ⟨_, rfl, rfl, Ext.refl _⟩

-- loop.example/g00861/impl.isName
def F_impl_isName (n : Nat) (a0_s : ByteArray) : Option Bool := (Option.bind (F_impl_within n ((a0_s.size : Int)) 1 8) fun r1 => (Option.bind (bif r1 then (Option.bind (F_strings_Trim n a0_s ((ByteArray.mk #[97, 98, 99, 100, 101, 102, 103, 104, 105, 106, 107, 108, 109, 110, 111, 112, 113, 114, 115, 116, 117, 118, 119, 120, 121, 122, 48, 49, 50, 51, 52, 53, 54, 55, 56, 57]))) fun r7 => (some ((r7.toList == ((ByteArray.mk #[])).toList)))) else (some false)) fun c7 => (Option.bind (bif c7 then (Option.bind (getB a0_s 0) fun x20 => (Option.bind (F_strings_IndexByte n ((ByteArray.mk #[97, 98, 99, 100, 101, 102, 103, 104, 105, 106, 107, 108, 109, 110, 111, 112, 113, 114, 115, 116, 117, 118, 119, 120, 121, 122])) x20) fun r22 => (some (decide (r22 ≥ 0))))) else (some false)) fun c20 => (some c20))))
set_option maxHeartbeats 40000000 in
theorem W_impl_isName {n : Nat} {a0_s : ByteArray} {r : Bool} {w : World} (hF : F_impl_isName n a0_s = some r) :
    Calls Tryd.prog 109 [.string a0_s].toArray w (Ret fun u w2 => u = .bool r ∧ Ext w w2) := by
  refine calls_of Tryd.func109 rfl Tryd.ntmps109 ?_
  have he0 : Ext w w := Ext.refl w
  unfold F_impl_isName at hF
  refine WC.seq ?_
  refine WC.region ?_
  refine TL.yld rfl rfl (yld_assign rfl rfl) ?_
  refine TL.done ?_
  refine NX.seq ?_
  refine WC.seq ?_
  refine WC.region ?_
  refine TL.yld rfl rfl (yld_move rfl rfl) ?_
  refine TL.yld rfl rfl (yld_lens rfl Tryd.underlying9 rfl) ?_
  obtain ⟨r1, hr2, hF⟩ := bsome hF
  refine TL.eff rfl rfl (eff_call rfl gf_54 rfl (W_impl_within hr2)) ?_
  rintro _ w3 ⟨rfl, hx4⟩
  have he5 : Ext w w3 := Ext.trans he0 hx4
  have hz6 := (hx4).size
  refine TL.yld rfl rfl (yld_move rfl rfl) ?_
  obtain ⟨c7, hb8, hF⟩ := bsome hF
  refine TL.cut 4 [(0, .string a0_s), (10, .bool c7)] (fun w' => Ext w3 w') ?_ ?_
  · rcases Bool.eq_false_or_eq_true r1 with hg9 | hg9
    ·
      rw [hg9] at hb8; simp only [cond_true, cond_false] at hb8
      replace hF := hb8
      refine TL.gy (j := 3) (t := 6) rfl rfl rfl hg9 rfl (yld_move rfl rfl) ?_
      obtain ⟨r10, hr11, hF⟩ := bsome hF
      refine TL.ge (j := 3) (t := 6) rfl rfl rfl hg9 rfl (eff_call rfl gf_138 rfl (W_strings_Trim hr11)) ?_
      rintro _ w12 ⟨rfl, hx13⟩
      have he14 : Ext w w12 := Ext.trans he5 hx13
      have hz15 := (hx13).size
      refine TL.gy (j := 3) (t := 6) rfl rfl rfl hg9 rfl (yld_eqs rfl rfl rfl) ?_
      obtain rfl := Option.some.inj hF
      refine TL.yld rfl rfl (yld_pick_t rfl rfl hg9 rfl) ?_
      exact TL.nil fun a h => ⟨h.weaken ⟨rfl, rfl, trivial⟩, hx13⟩
    ·
      rw [hg9] at hb8; simp only [cond_true, cond_false] at hb8
      refine TL.gnu (j := 3) (t := 6) rfl rfl rfl hg9 rfl ?_
      refine TL.gnu (j := 3) (t := 6) rfl rfl rfl hg9 rfl ?_
      refine TL.gnu (j := 3) (t := 6) rfl rfl rfl hg9 rfl ?_
      obtain rfl := Option.some.inj hb8
      refine TL.yld rfl rfl (yld_pick_f rfl rfl hg9 rfl) ?_
      exact TL.nil fun a h => ⟨h.weaken ⟨rfl, rfl, trivial⟩, Ext.refl _⟩
  intro w16 hx17
  have he18 : Ext w w16 := Ext.trans he5 hx17
  have hz19 := (hx17).size
  refine TL.yld rfl rfl (yld_move rfl rfl) ?_
  obtain ⟨c20, hb21, hF⟩ := bsome hF
  refine TL.cut 5 [(16, .bool c20)] (fun w' => Ext w16 w') ?_ ?_
  · rcases Bool.eq_false_or_eq_true c7 with hg22 | hg22
    ·
      rw [hg22] at hb21; simp only [cond_true, cond_false] at hb21
      replace hF := hb21
      refine TL.gy (j := 8) (t := 11) rfl rfl rfl hg22 rfl (yld_move rfl rfl) ?_
      obtain ⟨x23, hy24, hF⟩ := bsome hF
      refine TL.gy (j := 8) (t := 11) rfl rfl rfl hg22 rfl (yld_indexStr rfl Tryd.underlying9 rfl rfl hy24) ?_
      obtain ⟨r25, hr26, hF⟩ := bsome hF
      refine TL.ge (j := 8) (t := 11) rfl rfl rfl hg22 rfl (eff_call rfl gf_139 rfl (W_strings_IndexByte hr26)) ?_
      rintro _ w27 ⟨rfl, hx28⟩
      have he29 : Ext w w27 := Ext.trans he18 hx28
      have hz30 := (hx28).size
      refine TL.gy (j := 8) (t := 11) rfl rfl rfl hg22 rfl (yld_geq rfl rfl rfl) ?_
      obtain rfl := Option.some.inj hF
      refine TL.yld rfl rfl (yld_pick_t rfl rfl hg22 rfl) ?_
      exact TL.nil fun a h => ⟨h.weaken ⟨rfl, trivial⟩, hx28⟩
    ·
      rw [hg22] at hb21; simp only [cond_true, cond_false] at hb21
      refine TL.gnu (j := 8) (t := 11) rfl rfl rfl hg22 rfl ?_
      refine TL.gnu (j := 8) (t := 11) rfl rfl rfl hg22 rfl ?_
      refine TL.gnu (j := 8) (t := 11) rfl rfl rfl hg22 rfl ?_
      refine TL.gnu (j := 8) (t := 11) rfl rfl rfl hg22 rfl ?_
      obtain rfl := Option.some.inj hb21
      refine TL.yld rfl rfl (yld_pick_f rfl rfl hg22 rfl) ?_
      exact TL.nil fun a h => ⟨h.weaken ⟨rfl, trivial⟩, Ext.refl _⟩
  intro w31 hx32
  have he33 : Ext w w31 := Ext.trans he18 hx32
  have hz34 := (hx32).size
  refine TL.yld rfl rfl (yld_assign rfl rfl) ?_
  refine TL.done ?_
  refine NX.seq ?_
  refine WC.ret' ?_
  obtain rfl := Option.some.inj hF
  exact NX.end (rs := [.tmp 2]) (vs := [.bool c20]) rfl ⟨rfl, trivial⟩ ⟨_, rfl, rfl, he33⟩

-- slices.Index[[]string,string]
def F_slices_Index_string_string_L1 (a0_s : List ByteArray) (a1_v : ByteArray) (k0 : Int → Option Int) : Nat → Int → Option Int
  | 0 => fun _ => none
  | m + 1 => fun i5 => (bif decide (i5 < (a0_s.length : Int)) then (Option.bind (getI a0_s i5) fun x7 => (bif (a1_v.toList == x7.toList) then (some i5) else (F_slices_Index_string_string_L1 a0_s a1_v k0 m (IntKind.wrap IntKind.i64 (i5 + 1))))) else (k0 i5))
theorem F_slices_Index_string_string_L1_z (a0_s : List ByteArray) (a1_v : ByteArray) (k0 : Int → Option Int) (i5 : Int) : F_slices_Index_string_string_L1 a0_s a1_v k0 0 i5 = none := rfl
theorem F_slices_Index_string_string_L1_s (m : Nat) (a0_s : List ByteArray) (a1_v : ByteArray) (k0 : Int → Option Int) (i5 : Int) : F_slices_Index_string_string_L1 a0_s a1_v k0 (m + 1) i5 = (bif decide (i5 < (a0_s.length : Int)) then (Option.bind (getI a0_s i5) fun x7 => (bif (a1_v.toList == x7.toList) then (some i5) else (F_slices_Index_string_string_L1 a0_s a1_v k0 m (IntKind.wrap IntKind.i64 (i5 + 1))))) else (k0 i5)) := rfl

def F_slices_Index_string_string (n : Nat) (a0_s : List ByteArray) (a1_v : ByteArray) : Option Int := (F_slices_Index_string_string_L1 a0_s a1_v (fun i5 => (some (-1))) n 0)
set_option maxHeartbeats 40000000 in
theorem W_slices_Index_string_string {n : Nat} {a0_s : List ByteArray} {a1_v : ByteArray} {r : Int} {w : World} {v1 : Value} (hF : F_slices_Index_string_string n a0_s a1_v = some r) (ha2 : slRep cStr w (Iv 0 w.heap.size) a0_s v1) :
    Calls Tryd.prog 168 [v1, .string a1_v].toArray w (Ret fun u w2 => u = .int .i64 r ∧ Ext w w2) := by
  refine calls_of Tryd.func168 rfl Tryd.ntmps168 ?_
  have he0 : Ext w w := Ext.refl w
  unfold F_slices_Index_string_string at hF
  refine WC.seq ?_
  refine WC.region ?_
  refine TL.yld rfl rfl (yld_assign rfl rfl) ?_
  refine TL.done ?_
  refine NX.seq ?_
  refine WC.seq ?_
  refine WC.seq ?_
  refine WC.region ?_
  refine TL.yld rfl rfl (yld_move rfl rfl) ?_
  refine TL.yld rfl rfl (ye_len (c := cStr) rfl Tryd.underlying133 rfl (slRep.old ha2 he0 (Nat.le_refl _))) ?_
  refine TL.yld rfl rfl (yld_move rfl rfl) ?_
  refine TL.done ?_
  refine NX.seq ?_
  refine WC.block ?_
  refine WC.loop (fun m6 a wl => ∃ (i5 : Int), Kn 19 [(0, v1), (1, .string a1_v), (7, .int .i64 ((a0_s.length : Int))), (8, .int .i64 i5)] a ∧ Ext w wl ∧ w.heap.size ≤ wl.heap.size ∧ F_slices_Index_string_string_L1 a0_s a1_v (fun i5 => (some (-1))) m6 i5 = some r) n ?_ ?_
  · intro a hK; exact ⟨0, hK.weaken ⟨rfl, rfl, rfl, rfl, trivial⟩, he0, Nat.le_refl _, hF⟩
  · rintro m6 a w3 ⟨i5, hK, he4, hz7, hF⟩
    revert hK; revert a; refine (?_ : WC _ _ _ _ _ _)
    cases m6 with
    | zero => rw [F_slices_Index_string_string_L1_z] at hF; cases hF
    | succ m6 =>
      rw [F_slices_Index_string_string_L1_s] at hF
      refine WC.seq ?_
      refine WC.region ?_
      refine TL.yld rfl rfl (yld_lss rfl rfl rfl) ?_
      refine TL.done ?_
      refine NX.seq ?_
      refine WC.seq ?_
      refine WC.cond rfl ?_ ?_
      · intro hc8
        replace hF := bif_t hc8 hF
        refine WC.skip' ?_
        refine NX.seq ?_
        refine WC.seq ?_
        refine WC.block ?_
        refine WC.seq ?_
        refine WC.region ?_
        refine TL.yld rfl rfl (yld_move rfl rfl) ?_
        refine TL.yld rfl rfl (yld_assign rfl rfl) ?_
        refine TL.done ?_
        refine NX.seq ?_
        refine WC.seq ?_
        refine WC.region ?_
        refine TL.yld rfl rfl (yld_move rfl rfl) ?_
        refine TL.yld rfl rfl (yld_move rfl rfl) ?_
        refine TL.yld rfl rfl (yld_move rfl rfl) ?_
        obtain ⟨x9, hy10, hF⟩ := bsome hF
        refine TL.ye rfl rfl (ye_index (c := cStr) rfl Tryd.underlying133 cn_9 rfl rfl (slRep.old ha2 he4 (Nat.le_refl _)) hy10) ?_
        rintro _ ⟨b11, o12, us13, rfl, hib16, hr14, hcl15⟩
        have hib16 : 0 ≤ b11 ∧ b11 < w.heap.size := ⟨hib16.1, by have := hib16.2; omega⟩
        obtain rfl := hr14
        refine TL.yld rfl rfl (yld_load1 0 rfl ag_9 rfl hcl15 rfl rfl) ?_
        refine TL.yld rfl rfl (yld_eqs rfl rfl rfl) ?_
        refine TL.done ?_
        refine NX.seq ?_
        refine WC.cond rfl ?_ ?_
        · intro hc17
          replace hF := bif_t hc17 hF
          refine WC.seq ?_
          refine WC.region ?_
          refine TL.yld rfl rfl (yld_move rfl rfl) ?_
          refine TL.yld rfl rfl (yld_assign rfl rfl) ?_
          refine TL.done ?_
          refine NX.seq ?_
          refine WC.ret' ?_
          refine NX.blk_r ?_
          refine NX.then_r ?_
          refine NX.then_r ?_
          refine NX.blk_r ?_
          refine NX.then_r ?_
          obtain rfl := Option.some.inj hF
          exact NX.end (rs := [.tmp 4]) (vs := [.int .i64 i5]) rfl ⟨rfl, trivial⟩ ⟨_, rfl, rfl, he4⟩
        · intro hc18
          replace hF := bif_f hc18 hF
          refine WC.skip' ?_
          refine NX.blk_n ?_
          refine NX.seq ?_
          refine WC.region ?_
          refine TL.yld rfl rfl (yld_add rfl rfl rfl) ?_
          refine TL.yld rfl rfl (yld_move rfl rfl) ?_
          refine TL.done ?_
          refine NX.then_n ?_
          intro a hK; exact ⟨m6, Nat.lt_succ_self m6, (IntKind.wrap IntKind.i64 (i5 + 1)), hK.weaken ⟨rfl, rfl, rfl, rfl, trivial⟩, he4, (by omega), hF⟩
      · intro hc19
        replace hF := bif_f hc19 hF
        refine WC.exit' ?_
        refine NX.then_e ?_
        refine NX.then_e ?_
        refine NX.blk_hit ?_
        refine NX.seq ?_
        refine WC.seq ?_
        refine WC.region ?_
        refine TL.yld rfl rfl (yld_assign rfl rfl) ?_
        refine TL.done ?_
        refine NX.seq ?_
        refine WC.ret' ?_
        obtain rfl := Option.some.inj hF
        exact NX.end (rs := [.tmp 4]) (vs := [.int .i64 (-1)]) rfl ⟨rfl, trivial⟩ ⟨_, rfl, rfl, he4⟩

-- slices.Contains[[]string,string]
def F_slices_Contains_string_string (n : Nat) (a0_s : List ByteArray) (a1_v : ByteArray) : Option Bool := (Option.bind (F_slices_Index_string_string n a0_s a1_v) fun r3 => (some (decide (r3 ≥ 0))))
set_option maxHeartbeats 40000000 in
theorem W_slices_Contains_string_string {n : Nat} {a0_s : List ByteArray} {a1_v : ByteArray} {r : Bool} {w : World} {v1 : Value} (hF : F_slices_Contains_string_string n a0_s a1_v = some r) (ha2 : slRep cStr w (Iv 0 w.heap.size) a0_s v1) :
    Calls Tryd.prog 150 [v1, .string a1_v].toArray w (Ret fun u w2 => u = .bool r ∧ Ext w w2) := by
  refine calls_of Tryd.func150 rfl Tryd.ntmps150 ?_
  have he0 : Ext w w := Ext.refl w
  unfold F_slices_Contains_string_string at hF
  refine WC.seq ?_
  refine WC.region ?_
  refine TL.yld rfl rfl (yld_assign rfl rfl) ?_
  refine TL.done ?_
  refine NX.seq ?_
  refine WC.seq ?_
  refine WC.region ?_
  refine TL.yld rfl rfl (yld_move rfl rfl) ?_
  refine TL.yld rfl rfl (yld_move rfl rfl) ?_
  obtain ⟨r3, hr4, hF⟩ := bsome hF
  refine TL.eff rfl rfl (eff_call rfl gf_168 rfl (W_slices_Index_string_string hr4 ((slRep.old ha2 he0 (Nat.le_refl _)).wide (Nat.le_refl _) (he0).size))) ?_
  rintro _ w5 ⟨rfl, hx6⟩
  have he7 : Ext w w5 := Ext.trans he0 hx6
  have hz8 := (hx6).size
  refine TL.yld rfl rfl (yld_geq rfl rfl rfl) ?_
  refine TL.yld rfl rfl (yld_assign rfl rfl) ?_
  refine TL.done ?_
  refine NX.seq ?_
  refine WC.ret' ?_
  obtain rfl := Option.some.inj hF
  exact NX.end (rs := [.tmp 4]) (vs := [.bool (decide (r3 ≥ 0))]) rfl ⟨rfl, trivial⟩ ⟨_, rfl, rfl, he7⟩

-- loop.example/g00861/impl.areNames
def F_impl_areNames_L1 (n : Nat) (a0_list : List ByteArray) (k0 : Int → Option Bool) : Nat → Int → Option Bool
  | 0 => fun _ => none
  | m + 1 => fun i5 => (bif decide (i5 < (a0_list.length : Int)) then (Option.bind (getI a0_list i5) fun x7 => (Option.bind (F_impl_isName n x7) fun r15 => (Option.bind (bif (!r15) then (some true) else (Option.bind (subL a0_list 0 i5) fun z21 => (Option.bind (F_slices_Contains_string_string n z21 x7) fun r25 => (some r25)))) fun c21 => (bif c21 then (some false) else (F_impl_areNames_L1 n a0_list k0 m (IntKind.wrap IntKind.i64 (i5 + 1))))))) else (k0 i5))
theorem F_impl_areNames_L1_z (n : Nat) (a0_list : List ByteArray) (k0 : Int → Option Bool) (i5 : Int) : F_impl_areNames_L1 n a0_list k0 0 i5 = none := rfl
theorem F_impl_areNames_L1_s (m : Nat) (n : Nat) (a0_list : List ByteArray) (k0 : Int → Option Bool) (i5 : Int) : F_impl_areNames_L1 n a0_list k0 (m + 1) i5 = (bif decide (i5 < (a0_list.length : Int)) then (Option.bind (getI a0_list i5) fun x7 => (Option.bind (F_impl_isName n x7) fun r15 => (Option.bind (bif (!r15) then (some true) else (Option.bind (subL a0_list 0 i5) fun z21 => (Option.bind (F_slices_Contains_string_string n z21 x7) fun r25 => (some r25)))) fun c21 => (bif c21 then (some false) else (F_impl_areNames_L1 n a0_list k0 m (IntKind.wrap IntKind.i64 (i5 + 1))))))) else (k0 i5)) := rfl

def F_impl_areNames (n : Nat) (a0_list : List ByteArray) : Option Bool := (F_impl_areNames_L1 n a0_list (fun i5 => (some true)) n 0)
set_option maxHeartbeats 40000000 in
theorem W_impl_areNames {n : Nat} {a0_list : List ByteArray} {r : Bool} {w : World} {v1 : Value} (hF : F_impl_areNames n a0_list = some r) (ha2 : slRep cStr w (Iv 0 w.heap.size) a0_list v1) :
    Calls Tryd.prog 135 [v1].toArray w (Ret fun u w2 => u = .bool r ∧ Ext w w2) := by
  refine calls_of Tryd.func135 rfl Tryd.ntmps135 ?_
  have he0 : Ext w w := Ext.refl w
  unfold F_impl_areNames at hF
  refine WC.seq ?_
  refine WC.region ?_
  refine TL.yld rfl rfl (yld_assign rfl rfl) ?_
  refine TL.done ?_
  refine NX.seq ?_
  refine WC.seq ?_
  refine WC.seq ?_
  refine WC.region ?_
  refine TL.yld rfl rfl (yld_move rfl rfl) ?_
  refine TL.yld rfl rfl (ye_len (c := cStr) rfl Tryd.underlying133 rfl (slRep.old ha2 he0 (Nat.le_refl _))) ?_
  refine TL.yld rfl rfl (yld_move rfl rfl) ?_
  refine TL.done ?_
  refine NX.seq ?_
  refine WC.block ?_
  refine WC.loop (fun m6 a wl => ∃ (i5 : Int), Kn 23 [(0, v1), (5, v1), (6, .int .i64 ((a0_list.length : Int))), (7, .int .i64 i5)] a ∧ Ext w wl ∧ w.heap.size ≤ wl.heap.size ∧ F_impl_areNames_L1 n a0_list (fun i5 => (some true)) m6 i5 = some r) n ?_ ?_
  · intro a hK; exact ⟨0, hK.weaken ⟨rfl, rfl, rfl, rfl, trivial⟩, he0, Nat.le_refl _, hF⟩
  · rintro m6 a w3 ⟨i5, hK, he4, hz7, hF⟩
    revert hK; revert a; refine (?_ : WC _ _ _ _ _ _)
    cases m6 with
    | zero => rw [F_impl_areNames_L1_z] at hF; cases hF
    | succ m6 =>
      rw [F_impl_areNames_L1_s] at hF
      refine WC.seq ?_
      refine WC.region ?_
      refine TL.yld rfl rfl (yld_lss rfl rfl rfl) ?_
      refine TL.done ?_
      refine NX.seq ?_
      refine WC.seq ?_
      refine WC.cond rfl ?_ ?_
      · intro hc8
        replace hF := bif_t hc8 hF
        refine WC.skip' ?_
        refine NX.seq ?_
        refine WC.seq ?_
        refine WC.block ?_
        refine WC.seq ?_
        refine WC.region ?_
        refine TL.yld rfl rfl (yld_move rfl rfl) ?_
        obtain ⟨x9, hy10, hF⟩ := bsome hF
        refine TL.ye rfl rfl (ye_index (c := cStr) rfl Tryd.underlying133 cn_9 rfl rfl (slRep.old ha2 he4 (Nat.le_refl _)) hy10) ?_
        rintro _ ⟨b11, o12, us13, rfl, hib16, hr14, hcl15⟩
        have hib16 : 0 ≤ b11 ∧ b11 < w.heap.size := ⟨hib16.1, by have := hib16.2; omega⟩
        obtain rfl := hr14
        refine TL.yld rfl rfl (yld_load1 0 rfl ag_9 rfl hcl15 rfl rfl) ?_
        refine TL.yld rfl rfl (yld_assign rfl rfl) ?_
        refine TL.yld rfl rfl (yld_assign rfl rfl) ?_
        refine TL.done ?_
        refine NX.seq ?_
        refine WC.seq ?_
        refine WC.region ?_
        refine TL.yld rfl rfl (yld_move rfl rfl) ?_
        obtain ⟨r17, hr18, hF⟩ := bsome hF
        refine TL.eff rfl rfl (eff_call rfl gf_109 rfl (W_impl_isName hr18)) ?_
        rintro _ w19 ⟨rfl, hx20⟩
        have he21 : Ext w w19 := Ext.trans he4 hx20
        have hz22 := (hx20).size
        refine TL.yld rfl rfl (yld_not rfl rfl) ?_
        refine TL.yld rfl rfl (yld_move rfl rfl) ?_
        obtain ⟨c23, hb24, hF⟩ := bsome hF
        refine TL.cut 6 [(0, v1), (5, v1), (6, .int .i64 ((a0_list.length : Int))), (7, .int .i64 i5), (21, .bool c23)] (fun w' => Ext w19 w') ?_ ?_
        · rcases Bool.eq_false_or_eq_true (!r17) with hg25 | hg25
          ·
            rw [hg25] at hb24; simp only [cond_true, cond_false] at hb24
            refine TL.gnu (j := 3) (t := 15) rfl rfl rfl hg25 rfl ?_
            refine TL.gnu (j := 3) (t := 15) rfl rfl rfl hg25 rfl ?_
            refine TL.gnu (j := 3) (t := 15) rfl rfl rfl hg25 rfl ?_
            refine TL.gnu (j := 3) (t := 15) rfl rfl rfl hg25 rfl ?_
            refine TL.gnu (j := 3) (t := 15) rfl rfl rfl hg25 rfl ?_
            obtain rfl := Option.some.inj hb24
            refine TL.yld rfl rfl (yld_pick_t rfl rfl hg25 rfl) ?_
            exact TL.nil fun a h => ⟨h.weaken ⟨rfl, rfl, rfl, rfl, rfl, trivial⟩, Ext.refl _⟩
          ·
            rw [hg25] at hb24; simp only [cond_true, cond_false] at hb24
            replace hF := hb24
            refine TL.gy (j := 3) (t := 15) rfl rfl rfl hg25 rfl (yld_move rfl rfl) ?_
            refine TL.gy (j := 3) (t := 15) rfl rfl rfl hg25 rfl (yld_move rfl rfl) ?_
            obtain ⟨z26, hz27, hF⟩ := bsome hF
            refine TL.yeg (j := 3) (t := 15) rfl rfl rfl hg25 rfl (ye_slice_to (c := cStr) rfl Tryd.underlying133 cn_9 rfl rfl (slRep.old ha2 he21 (Nat.le_refl _)) hz27) ?_
            rintro v28 hs29
            refine TL.gy (j := 3) (t := 15) rfl rfl rfl hg25 rfl (yld_move rfl rfl) ?_
            obtain ⟨r30, hr31, hF⟩ := bsome hF
            refine TL.ge (j := 3) (t := 15) rfl rfl rfl hg25 rfl (eff_call rfl gf_150 rfl (W_slices_Contains_string_string hr31 (hs29.wide (Nat.zero_le _) (by omega)))) ?_
            rintro _ w32 ⟨rfl, hx33⟩
            have he34 : Ext w w32 := Ext.trans he21 hx33
            have hs29 := slRep.old hs29 hx33 (by omega)
            have hz35 := (hx33).size
            obtain rfl := Option.some.inj hF
            refine TL.yld rfl rfl (yld_pick_f rfl rfl hg25 rfl) ?_
            exact TL.nil fun a h => ⟨h.weaken ⟨rfl, rfl, rfl, rfl, rfl, trivial⟩, hx33⟩
        intro w36 hx37
        have he38 : Ext w w36 := Ext.trans he21 hx37
        have hz39 := (hx37).size
        refine TL.done ?_
        refine NX.seq ?_
        refine WC.cond rfl ?_ ?_
        · intro hc40
          replace hF := bif_t hc40 hF
          refine WC.seq ?_
          refine WC.region ?_
          refine TL.yld rfl rfl (yld_assign rfl rfl) ?_
          refine TL.done ?_
          refine NX.seq ?_
          refine WC.ret' ?_
          refine NX.blk_r ?_
          refine NX.then_r ?_
          refine NX.then_r ?_
          refine NX.blk_r ?_
          refine NX.then_r ?_
          obtain rfl := Option.some.inj hF
          exact NX.end (rs := [.tmp 2]) (vs := [.bool false]) rfl ⟨rfl, trivial⟩ ⟨_, rfl, rfl, he38⟩
        · intro hc41
          replace hF := bif_f hc41 hF
          refine WC.skip' ?_
          refine NX.blk_n ?_
          refine NX.seq ?_
          refine WC.region ?_
          refine TL.yld rfl rfl (yld_add rfl rfl rfl) ?_
          refine TL.yld rfl rfl (yld_move rfl rfl) ?_
          refine TL.done ?_
          refine NX.then_n ?_
          intro a hK; exact ⟨m6, Nat.lt_succ_self m6, (IntKind.wrap IntKind.i64 (i5 + 1)), hK.weaken ⟨rfl, rfl, rfl, rfl, trivial⟩, he38, (by omega), hF⟩
      · intro hc42
        replace hF := bif_f hc42 hF
        refine WC.exit' ?_
        refine NX.then_e ?_
        refine NX.then_e ?_
        refine NX.blk_hit ?_
        refine NX.seq ?_
        refine WC.seq ?_
        refine WC.region ?_
        refine TL.yld rfl rfl (yld_assign rfl rfl) ?_
        refine TL.done ?_
        refine NX.seq ?_
        refine WC.ret' ?_
        obtain rfl := Option.some.inj hF
        exact NX.end (rs := [.tmp 2]) (vs := [.bool true]) rfl ⟨rfl, trivial⟩ ⟨_, rfl, rfl, he4⟩

-- loop.example/g00861/impl.IsClocks
def F_impl_IsClocks_L1 (n : Nat) (a0_list : List S_Clock) (k0 : (List ByteArray) → Int → Option Bool) : Nat → (List ByteArray) → Int → Option Bool
  | 0 => fun _ _ => none
  | m + 1 => fun l10 i14 => (bif decide (i14 < (a0_list.length : Int)) then (Option.bind (getI a0_list i14) fun x16 => (Option.bind (F_impl_isClock n a0_list i14) fun r36 => (bif (!r36) then (some false) else (Option.bind (appN l10 [x16.Name] 16) fun z57 => (F_impl_IsClocks_L1 n a0_list k0 m z57 (IntKind.wrap IntKind.i64 (i14 + 1))))))) else (k0 l10 i14))
theorem F_impl_IsClocks_L1_z (n : Nat) (a0_list : List S_Clock) (k0 : (List ByteArray) → Int → Option Bool) (l10 : List ByteArray) (i14 : Int) : F_impl_IsClocks_L1 n a0_list k0 0 l10 i14 = none := rfl
theorem F_impl_IsClocks_L1_s (m : Nat) (n : Nat) (a0_list : List S_Clock) (k0 : (List ByteArray) → Int → Option Bool) (l10 : List ByteArray) (i14 : Int) : F_impl_IsClocks_L1 n a0_list k0 (m + 1) l10 i14 = (bif decide (i14 < (a0_list.length : Int)) then (Option.bind (getI a0_list i14) fun x16 => (Option.bind (F_impl_isClock n a0_list i14) fun r36 => (bif (!r36) then (some false) else (Option.bind (appN l10 [x16.Name] 16) fun z57 => (F_impl_IsClocks_L1 n a0_list k0 m z57 (IntKind.wrap IntKind.i64 (i14 + 1))))))) else (k0 l10 i14)) := rfl

def F_impl_IsClocks (n : Nat) (a0_list : List S_Clock) : Option Bool := (bif decide ((a0_list.length : Int) > 6) then (some false) else (F_impl_IsClocks_L1 n a0_list (fun l10 i14 => (Option.bind (F_impl_areNames n l10) fun r15 => (some r15))) n (([] : List ByteArray)) 0))
set_option maxHeartbeats 40000000 in
theorem W_impl_IsClocks {n : Nat} {a0_list : List S_Clock} {r : Bool} {w : World} {v1 : Value} (hF : F_impl_IsClocks n a0_list = some r) (ha2 : slRep C_Clock w (Iv 0 w.heap.size) a0_list v1) :
    Calls Tryd.prog 101 [v1].toArray w (Ret fun u w2 => u = .bool r ∧ Ext w w2) := by
  refine calls_of Tryd.func101 rfl Tryd.ntmps101 ?_
  have he0 : Ext w w := Ext.refl w
  unfold F_impl_IsClocks at hF
  refine WC.seq ?_
  refine WC.region ?_
  refine TL.yld rfl rfl (yld_assign rfl rfl) ?_
  refine TL.done ?_
  refine NX.seq ?_
  refine WC.seq ?_
  refine WC.seq ?_
  refine WC.region ?_
  refine TL.yld rfl rfl (yld_move rfl rfl) ?_
  refine TL.yld rfl rfl (ye_len (c := C_Clock) rfl Tryd.underlying26 rfl (slRep.old ha2 he0 (Nat.le_refl _))) ?_
  refine TL.yld rfl rfl (yld_gtr rfl rfl rfl) ?_
  refine TL.done ?_
  refine NX.seq ?_
  refine WC.cond rfl ?_ ?_
  · intro hc3
    replace hF := bif_t hc3 hF
    refine WC.seq ?_
    refine WC.region ?_
    refine TL.yld rfl rfl (yld_assign rfl rfl) ?_
    refine TL.done ?_
    refine NX.seq ?_
    refine WC.ret' ?_
    refine NX.then_r ?_
    obtain rfl := Option.some.inj hF
    exact NX.end (rs := [.tmp 2]) (vs := [.bool false]) rfl ⟨rfl, trivial⟩ ⟨_, rfl, rfl, he0⟩
  · intro hc4
    replace hF := bif_f hc4 hF
    refine WC.skip' ?_
    refine NX.seq ?_
    refine WC.seq ?_
    refine WC.region ?_
    refine TL.yld rfl rfl (yld_assign rfl rfl) ?_
    refine TL.done ?_
    refine NX.seq ?_
    refine WC.seq ?_
    refine WC.seq ?_
    refine WC.region ?_
    refine TL.yld rfl rfl (yld_move rfl rfl) ?_
    refine TL.yld rfl rfl (ye_len (c := C_Clock) rfl Tryd.underlying26 rfl (slRep.old ha2 he0 (Nat.le_refl _))) ?_
    refine TL.yld rfl rfl (yld_move rfl rfl) ?_
    refine TL.done ?_
    refine NX.seq ?_
    refine WC.block ?_
    have hs7 : ownR cStr w (w.heap.size) (Iv 0 0) 9 [] (.slice none 0 0) := ownR.nil _ _ _ _ _
    have hbd8 : ∀ q, (Value.slice none 0 0).ownBlock = some q → w.heap.size ≤ q ∧ q < w.heap.size := bd_nil
    refine WC.loop (fun m15 a wl => ∃ (l10 : List ByteArray) (v11 : Value) (i14 : Int), Kn 28 [(0, v1), (3, v11), (9, v1), (10, .int .i64 ((a0_list.length : Int))), (11, .int .i64 i14)] a ∧ Ext w wl ∧ w.heap.size ≤ wl.heap.size ∧ ownR cStr wl (w.heap.size) (Iv 0 0) 9 l10 v11 ∧ (∀ q, v11.ownBlock = some q → w.heap.size ≤ q ∧ q < wl.heap.size) ∧ F_impl_IsClocks_L1 n a0_list (fun l10 i14 => (Option.bind (F_impl_areNames n l10) fun r15 => (some r15))) m15 l10 i14 = some r) n ?_ ?_
    · intro a hK; exact ⟨(([] : List ByteArray)), ((.slice none 0 0)), 0, hK.weaken ⟨rfl, rfl, rfl, rfl, rfl, trivial⟩, he0, Nat.le_refl _, hs7, (fun g hg => by have := hbd8 g hg; omega), hF⟩
    · rintro m15 a w5 ⟨l10, v11, i14, hK, he6, hz16, hs12, hbd13, hF⟩
      revert hK; revert a; refine (?_ : WC _ _ _ _ _ _)
      cases m15 with
      | zero => rw [F_impl_IsClocks_L1_z] at hF; cases hF
      | succ m15 =>
        rw [F_impl_IsClocks_L1_s] at hF
        refine WC.seq ?_
        refine WC.region ?_
        refine TL.yld rfl rfl (yld_lss rfl rfl rfl) ?_
        refine TL.done ?_
        refine NX.seq ?_
        refine WC.seq ?_
        refine WC.cond rfl ?_ ?_
        · intro hc17
          replace hF := bif_t hc17 hF
          refine WC.skip' ?_
          refine NX.seq ?_
          refine WC.seq ?_
          refine WC.block ?_
          refine WC.seq ?_
          refine WC.region ?_
          refine TL.yld rfl rfl (yld_move rfl rfl) ?_
          obtain ⟨x18, hy19, hF⟩ := bsome hF
          refine TL.ye rfl rfl (ye_index (c := C_Clock) rfl Tryd.underlying26 cn_75 rfl rfl (slRep.old ha2 he6 (Nat.le_refl _)) hy19) ?_
          rintro _ ⟨b20, o21, us22, rfl, hib25, hr23, hcl24⟩
          have hib25 : 0 ≤ b20 ∧ b20 < w.heap.size := ⟨hib25.1, by have := hib25.2; omega⟩
          obtain rfl := C_Clock_open hr23
          refine TL.yld rfl rfl (yld_loadN (us := [.string x18.Name, .int .i64 x18.Place, .int .i64 x18.Period, .int .i64 x18.RiseAt, .int .i64 x18.FallAt, .int .i64 x18.Source, .int .i64 x18.Divide, .bool x18.Invert, .int .i64 x18.EarlyLatency, .int .i64 x18.LateLatency, .int .i64 x18.Uncertainty]) rfl ag_75 rfl hcl24 cn_75) ?_
          refine TL.eff rfl rfl (eff_alloc rfl zn_75) ?_
          rintro _ w27 ⟨b26, rfl, hn28⟩
          obtain ⟨hn28e, hn28s, hn28x, hb29⟩ := hn28
          have hb29 : Box w27 b26 [.string ByteArray.empty, .int .i64 0, .int .i64 0, .int .i64 0, .int .i64 0, .int .i64 0, .int .i64 0, .bool false, .int .i64 0, .int .i64 0, .int .i64 0] 75 := hb29
          have he31 : Ext w w27 := Ext.trans he6 hn28x
          have hs12 := ownR.ext hs12 hn28x
          have hz32 := (hn28x).size
          have hlo30 : w.heap.size ≤ b26 := by rw [hn28e]; exact (he6).size
          refine TL.yld rfl rfl (yld_assign rfl rfl) ?_
          refine TL.eff rfl rfl (eff_store rfl rfl rfl hb29 cn_75 rfl rfl) ?_
          rintro _ w33 ⟨hu34, hb35⟩
          have he36 : Ext w w33 := Below.trans he31 (Upd.below hu34 (by omega))
          have hs12 := ownR.upd hs12 hu34 (fun g hg => by have := hbd13 g hg; omega)
          have hz37 := (hu34).size
          have hb29 : Box w33 b26 [.string x18.Name, .int .i64 x18.Place, .int .i64 x18.Period, .int .i64 x18.RiseAt, .int .i64 x18.FallAt, .int .i64 x18.Source, .int .i64 x18.Divide, .bool x18.Invert, .int .i64 x18.EarlyLatency, .int .i64 x18.LateLatency, .int .i64 x18.Uncertainty] 75 := hb35
          refine TL.done ?_
          refine NX.seq ?_
          refine WC.seq ?_
          refine WC.seq ?_
          refine WC.region ?_
          refine TL.yld rfl rfl (yld_move rfl rfl) ?_
          refine TL.yld rfl rfl (yld_move rfl rfl) ?_
          obtain ⟨r38, hr39, hF⟩ := bsome hF
          refine TL.eff rfl rfl (eff_call rfl gf_134 rfl (W_impl_isClock hr39 ((slRep.old ha2 he36 (Nat.le_refl _)).wide (Nat.le_refl _) (he36).size))) ?_
          rintro _ w40 ⟨rfl, hx41⟩
          have he42 : Ext w w40 := Ext.trans he36 hx41
          have hb29 := Box.ext hb29 hx41
          have hs12 := ownR.ext hs12 hx41
          have hz43 := (hx41).size
          refine TL.yld rfl rfl (yld_not rfl rfl) ?_
          refine TL.done ?_
          refine NX.seq ?_
          refine WC.cond rfl ?_ ?_
          · intro hc44
            replace hF := bif_t hc44 hF
            refine WC.seq ?_
            refine WC.region ?_
            refine TL.yld rfl rfl (yld_assign rfl rfl) ?_
            refine TL.done ?_
            refine NX.seq ?_
            refine WC.ret' ?_
            refine NX.then_r ?_
            refine NX.blk_r ?_
            refine NX.then_r ?_
            refine NX.then_r ?_
            refine NX.blk_r ?_
            refine NX.then_r ?_
            obtain rfl := Option.some.inj hF
            exact NX.end (rs := [.tmp 2]) (vs := [.bool false]) rfl ⟨rfl, trivial⟩ ⟨_, rfl, rfl, he42⟩
          · intro hc45
            replace hF := bif_f hc45 hF
            refine WC.skip' ?_
            refine NX.seq ?_
            refine WC.region ?_
            refine TL.yld rfl rfl (yld_move rfl rfl) ?_
            refine TL.yld rfl rfl (yld_fieldAddr rfl fo_75_0 rfl) ?_
            refine TL.yld rfl rfl (yld_load1 0 rfl ag_9 rfl (Box.cells hb29) rfl rfl) ?_
            refine TL.eff rfl rfl (eff_buildSlice (c := cStr) (xs := [x18.Name]) (S := (Iv 0 0)) (uss := [(0, [.string x18.Name])]) (out := [.string x18.Name]) rfl Tryd.underlying133 in_9 rfl rfl (fillL_all [[.string x18.Name]] rfl rfl rfl) rfl rfl rfl rfl (one_rep (uss := [[.string x18.Name]]) (show reps _ _ _ _ _ from ⟨rfl, trivial⟩) rfl) (fun k h => by have := h.2; omega) rfl) ?_
            rintro v46 w47 ⟨g48, hv49, hg50, hz51, hx52, hs53⟩
            have he54 : Ext w w47 := Ext.trans he42 hx52
            have hb29 := Box.ext hb29 hx52
            have hs12 := ownR.ext hs12 hx52
            have hz55 := (hx52).size
            have hlo56 : w.heap.size ≤ g48 := by rw [hg50]; exact (he42).size
            have hbd57 := bd_of hv49
            clear hv49
            obtain ⟨z59, ha60, hF⟩ := bsome hF
            refine TL.eff rfl rfl (eff_appendF (c := cStr) rfl Tryd.underlying133 in_9 rfl rfl rfl rfl rfl hs12 (by omega) (ownR.slf hs53 (Nat.le_refl _) (Nat.le_refl _)) ha60) ?_
            rintro v61 w62 ⟨hs63, hgr64⟩
            have he66 : Ext w w62 := Below.trans he54 (Grew.low hgr64 (fun g hg => by have := hbd13 g hg; omega) (he54).size)
            have hp67 : ∀ g, v61.ownBlock = some g → g ≠ b26 := Grew.sepP (p := fun g => g ≠ b26) hgr64 (fun g hg => by have := hbd13 g hg; omega) (fun g hg => by omega)
            have hb29 := Grew.box hgr64 hb29 (fun g hg => by have := hbd13 g hg; omega)
            have hp68 : ∀ g q, v11.ownBlock = some g → v46.ownBlock = some q → g ≠ q := (fun g q hg hq => by have := hbd13 g hg; have := hbd57 q hq; omega)
            have hp69 : ∀ g q, v61.ownBlock = some g → v46.ownBlock = some q → g ≠ q := fun g q hg hq => Grew.sepP (p := fun g => ∀ q, v46.ownBlock = some q → g ≠ q) hgr64 (fun g hg q hq => (hp68) g q hg hq) (fun g hg q hq => by have := hbd57 q hq; omega) g hg q hq
            have hs53 := Grew.ownF hgr64 hs53 hp68
            have hz70 := (hgr64).1.size
            have hbd71 : ∀ g, v61.ownBlock = some g → w.heap.size ≤ g ∧ g < w62.heap.size := Grew.bd hgr64 hs63 (fun g hg => ⟨by have := hbd13 g hg; omega, (hbd13 g hg).2⟩) (by omega) (by omega)
            refine TL.yld rfl rfl (yld_assign rfl rfl) ?_
            refine TL.done ?_
            refine NX.blk_n ?_
            refine NX.seq ?_
            refine WC.region ?_
            refine TL.yld rfl rfl (yld_add rfl rfl rfl) ?_
            refine TL.yld rfl rfl (yld_move rfl rfl) ?_
            refine TL.done ?_
            refine NX.then_n ?_
            intro a hK; exact ⟨m15, Nat.lt_succ_self m15, z59, v61, (IntKind.wrap IntKind.i64 (i14 + 1)), hK.weaken ⟨rfl, rfl, rfl, rfl, rfl, trivial⟩, he66, (by omega), hs63, (fun g hg => by have := hbd71 g hg; omega), hF⟩
        · intro hc72
          replace hF := bif_f hc72 hF
          refine WC.exit' ?_
          refine NX.then_e ?_
          refine NX.then_e ?_
          refine NX.blk_hit ?_
          refine NX.seq ?_
          refine WC.seq ?_
          refine WC.region ?_
          refine TL.yld rfl rfl (yld_move rfl rfl) ?_
          obtain ⟨r73, hr74, hF⟩ := bsome hF
          refine TL.eff rfl rfl (eff_call rfl gf_135 rfl (W_impl_areNames hr74 (ownR.slf hs12 (Nat.zero_le _) (Nat.le_refl _)))) ?_
          rintro _ w75 ⟨rfl, hx76⟩
          have he77 : Ext w w75 := Ext.trans he6 hx76
          have hs12 := ownR.ext hs12 hx76
          have hz78 := (hx76).size
          refine TL.yld rfl rfl (yld_assign rfl rfl) ?_
          refine TL.done ?_
          refine NX.seq ?_
          refine WC.ret' ?_
          obtain rfl := Option.some.inj hF
          exact NX.end (rs := [.tmp 2]) (vs := [.bool r73]) rfl ⟨rfl, trivial⟩ ⟨_, rfl, rfl, he77⟩

-- loop.example/g00861/impl.length[loop.example/g00861/impl.Clock]
def F_impl_length_impl_Clock (n : Nat) (a0_list : List S_Clock) : Option Int := (some ((a0_list.length : Int)))
set_option maxHeartbeats 40000000 in
theorem W_impl_length_impl_Clock {n : Nat} {a0_list : List S_Clock} {r : Int} {w : World} {v1 : Value} (hF : F_impl_length_impl_Clock n a0_list = some r) (ha2 : slRep C_Clock w (Iv 0 w.heap.size) a0_list v1) :
    Calls Tryd.prog 102 [v1].toArray w (Ret fun u w2 => u = .int .i64 r ∧ Ext w w2) := by
  refine calls_of Tryd.func102 rfl Tryd.ntmps102 ?_
  have he0 : Ext w w := Ext.refl w
  unfold F_impl_length_impl_Clock at hF
  refine WC.seq ?_
  refine WC.region ?_
  refine TL.yld rfl rfl (yld_assign rfl rfl) ?_
  refine TL.done ?_
  refine NX.seq ?_
  refine WC.seq ?_
  refine WC.region ?_
  refine TL.yld rfl rfl (yld_move rfl rfl) ?_
  refine TL.yld rfl rfl (ye_len (c := C_Clock) rfl Tryd.underlying26 rfl (slRep.old ha2 he0 (Nat.le_refl _))) ?_
  refine TL.yld rfl rfl (yld_assign rfl rfl) ?_
  refine TL.done ?_
  refine NX.seq ?_
  refine WC.ret' ?_
  obtain rfl := Option.some.inj hF
  exact NX.end (rs := [.tmp 2]) (vs := [.int .i64 ((a0_list.length : Int))]) rfl ⟨rfl, trivial⟩ ⟨_, rfl, rfl, he0⟩

-- loop.example/g00861/impl.clockCode
def F_impl_clockCode (n : Nat) (a0_list : List S_Clock) (a1_clocks : List Int) : Option Int := (Option.bind (F_impl_IsClocks n a0_list) fun r5 => (bif (!r5) then (some 1) else (Option.bind (F_impl_length_impl_Clock n a0_list) fun r13 => (Option.bind (F_impl_areWithin n a1_clocks 0 (IntKind.wrap IntKind.i64 (r13 - 1))) fun r19 => (bif (!r19) then (some 4) else (some 0))))))
set_option maxHeartbeats 40000000 in
theorem W_impl_clockCode {n : Nat} {a0_list : List S_Clock} {a1_clocks : List Int} {r : Int} {w : World} {v1 : Value} {v3 : Value} (hF : F_impl_clockCode n a0_list a1_clocks = some r) (ha2 : slRep C_Clock w (Iv 0 w.heap.size) a0_list v1) (ha4 : slRep (cInt .i64) w (Iv 0 w.heap.size) a1_clocks v3) :
    Calls Tryd.prog 60 [v1, v3].toArray w (Ret fun u w2 => u = .int .i64 r ∧ Ext w w2) := by
  refine calls_of Tryd.func60 rfl Tryd.ntmps60 ?_
  have he0 : Ext w w := Ext.refl w
  unfold F_impl_clockCode at hF
  refine WC.seq ?_
  refine WC.region ?_
  refine TL.yld rfl rfl (yld_assign rfl rfl) ?_
  refine TL.done ?_
  refine NX.seq ?_
  refine WC.seq ?_
  refine WC.block ?_
  refine WC.seq ?_
  refine WC.region ?_
  refine TL.yld rfl rfl (yld_move rfl rfl) ?_
  obtain ⟨r5, hr6, hF⟩ := bsome hF
  refine TL.eff rfl rfl (eff_call rfl gf_101 rfl (W_impl_IsClocks hr6 ((slRep.old ha2 he0 (Nat.le_refl _)).wide (Nat.le_refl _) (he0).size))) ?_
  rintro _ w7 ⟨rfl, hx8⟩
  have he9 : Ext w w7 := Ext.trans he0 hx8
  have hz10 := (hx8).size
  refine TL.yld rfl rfl (yld_not rfl rfl) ?_
  refine TL.yld rfl rfl (yld_assign rfl rfl) ?_
  refine TL.done ?_
  refine NX.seq ?_
  refine WC.cond rfl ?_ ?_
  · intro hc11
    replace hF := bif_t hc11 hF
    refine WC.seq ?_
    refine WC.region ?_
    refine TL.yld rfl rfl (yld_assign rfl rfl) ?_
    refine TL.done ?_
    refine NX.seq ?_
    refine WC.ret' ?_
    refine NX.blk_r ?_
    refine NX.then_r ?_
    obtain rfl := Option.some.inj hF
    exact NX.end (rs := [.tmp 4]) (vs := [.int .i64 1]) rfl ⟨rfl, trivial⟩ ⟨_, rfl, rfl, he9⟩
  · intro hc12
    replace hF := bif_f hc12 hF
    refine WC.seq ?_
    refine WC.region ?_
    refine TL.yld rfl rfl (yld_move rfl rfl) ?_
    refine TL.yld rfl rfl (yld_move rfl rfl) ?_
    obtain ⟨r13, hr14, hF⟩ := bsome hF
    refine TL.eff rfl rfl (eff_call rfl gf_102 rfl (W_impl_length_impl_Clock hr14 ((slRep.old ha2 he9 (Nat.le_refl _)).wide (Nat.le_refl _) (he9).size))) ?_
    rintro _ w15 ⟨rfl, hx16⟩
    have he17 : Ext w w15 := Ext.trans he9 hx16
    have hz18 := (hx16).size
    refine TL.yld rfl rfl (yld_sub rfl rfl rfl) ?_
    obtain ⟨r19, hr20, hF⟩ := bsome hF
    refine TL.eff rfl rfl (eff_call rfl gf_82 rfl (W_impl_areWithin hr20 ((slRep.old ha4 he17 (Nat.le_refl _)).wide (Nat.le_refl _) (he17).size))) ?_
    rintro _ w21 ⟨rfl, hx22⟩
    have he23 : Ext w w21 := Ext.trans he17 hx22
    have hz24 := (hx22).size
    refine TL.yld rfl rfl (yld_not rfl rfl) ?_
    refine TL.yld rfl rfl (yld_assign rfl rfl) ?_
    refine TL.done ?_
    refine NX.seq ?_
    refine WC.cond rfl ?_ ?_
    · intro hc25
      replace hF := bif_t hc25 hF
      refine WC.seq ?_
      refine WC.region ?_
      refine TL.yld rfl rfl (yld_assign rfl rfl) ?_
      refine TL.done ?_
      refine NX.seq ?_
      refine WC.ret' ?_
      refine NX.blk_r ?_
      refine NX.then_r ?_
      obtain rfl := Option.some.inj hF
      exact NX.end (rs := [.tmp 4]) (vs := [.int .i64 4]) rfl ⟨rfl, trivial⟩ ⟨_, rfl, rfl, he23⟩
    · intro hc26
      replace hF := bif_f hc26 hF
      refine WC.skip' ?_
      refine NX.blk_n ?_
      refine NX.seq ?_
      refine WC.seq ?_
      refine WC.region ?_
      refine TL.yld rfl rfl (yld_assign rfl rfl) ?_
      refine TL.done ?_
      refine NX.seq ?_
      refine WC.ret' ?_
      obtain rfl := Option.some.inj hF
      exact NX.end (rs := [.tmp 4]) (vs := [.int .i64 0]) rfl ⟨rfl, trivial⟩ ⟨_, rfl, rfl, he23⟩

-- loop.example/g00861/impl.gcd
def F_impl_gcd_L1 (k0 : Int → Int → Option Int) : Nat → Int → Int → Option Int
  | 0 => fun _ _ => none
  | m + 1 => fun i3 i4 => (bif (i4 != 0) then (bif (i4 == 0) then none else (F_impl_gcd_L1 k0 m i4 (Int.tmod i3 i4))) else (k0 i3 i4))
theorem F_impl_gcd_L1_z (k0 : Int → Int → Option Int) (i3 : Int) (i4 : Int) : F_impl_gcd_L1 k0 0 i3 i4 = none := rfl
theorem F_impl_gcd_L1_s (m : Nat) (k0 : Int → Int → Option Int) (i3 : Int) (i4 : Int) : F_impl_gcd_L1 k0 (m + 1) i3 i4 = (bif (i4 != 0) then (bif (i4 == 0) then none else (F_impl_gcd_L1 k0 m i4 (Int.tmod i3 i4))) else (k0 i3 i4)) := rfl

def F_impl_gcd (n : Nat) (a0_a : Int) (a1_b : Int) : Option Int := (F_impl_gcd_L1 (fun i3 i4 => (some i3)) n a0_a a1_b)
set_option maxHeartbeats 40000000 in
theorem W_impl_gcd {n : Nat} {a0_a : Int} {a1_b : Int} {r : Int} {w : World} (hF : F_impl_gcd n a0_a a1_b = some r) :
    Calls Tryd.prog 103 [.int .i64 a0_a, .int .i64 a1_b].toArray w (Ret fun u w2 => u = .int .i64 r ∧ Ext w w2) := by
  refine calls_of Tryd.func103 rfl Tryd.ntmps103 ?_
  have he0 : Ext w w := Ext.refl w
  unfold F_impl_gcd at hF
  refine WC.seq ?_
  refine WC.region ?_
  refine TL.yld rfl rfl (yld_assign rfl rfl) ?_
  refine TL.done ?_
  refine NX.seq ?_
  refine WC.seq ?_
  refine WC.block ?_
  refine WC.loop (fun m5 a wl => ∃ (i3 : Int) (i4 : Int), Kn 12 [(0, .int .i64 i3), (1, .int .i64 i4)] a ∧ Ext w wl ∧ w.heap.size ≤ wl.heap.size ∧ F_impl_gcd_L1 (fun i3 i4 => (some i3)) m5 i3 i4 = some r) n ?_ ?_
  · intro a hK; exact ⟨a0_a, a1_b, hK.weaken ⟨rfl, rfl, trivial⟩, he0, Nat.le_refl _, hF⟩
  · rintro m5 a w1 ⟨i3, i4, hK, he2, hz6, hF⟩
    revert hK; revert a; refine (?_ : WC _ _ _ _ _ _)
    cases m5 with
    | zero => rw [F_impl_gcd_L1_z] at hF; cases hF
    | succ m5 =>
      rw [F_impl_gcd_L1_s] at hF
      refine WC.seq ?_
      refine WC.seq ?_
      refine WC.region ?_
      refine TL.yld rfl rfl (yld_move rfl rfl) ?_
      refine TL.yld rfl rfl (yld_neq rfl rfl rfl) ?_
      refine TL.done ?_
      refine NX.seq ?_
      refine WC.cond rfl ?_ ?_
      · intro hc7
        replace hF := bif_t hc7 hF
        refine WC.skip' ?_
        refine NX.seq ?_
        refine WC.block ?_
        refine WC.quiet Tryd.hm (by kernel_rfl) ?_
        refine QL.yld rfl rfl (Yld.qui (yld_move rfl rfl)) ?_
        refine QL.yld rfl rfl (Yld.qui (yld_move rfl rfl)) ?_
        refine QL.yld rfl rfl (Yld.qui (yld_move rfl rfl)) ?_
        obtain ⟨hn8, hF⟩ := nzero hF
        refine QL.yld rfl rfl (Yld.qui (yld_rem rfl rfl rfl hn8)) ?_
        refine QL.yld rfl rfl (Yld.qui (yld_assign rfl rfl)) ?_
        refine QL.yld rfl rfl (Yld.qui (yld_assign rfl rfl)) ?_
        refine QL.done fun w9 hx10 => ?_
        have he11 : Ext w w9 := Ext.trans he2 hx10
        have hz12 := (hx10).size
        refine NX.blk_n ?_
        refine NX.then_n ?_
        intro a hK; exact ⟨m5, Nat.lt_succ_self m5, i4, (Int.tmod i3 i4), hK.weaken ⟨rfl, rfl, trivial⟩, he11, (by omega), hF⟩
      · intro hc13
        replace hF := bif_f hc13 hF
        refine WC.exit' ?_
        refine NX.then_e ?_
        refine NX.then_e ?_
        refine NX.blk_hit ?_
        refine NX.seq ?_
        refine WC.seq ?_
        refine WC.region ?_
        refine TL.yld rfl rfl (yld_move rfl rfl) ?_
        refine TL.yld rfl rfl (yld_assign rfl rfl) ?_
        refine TL.done ?_
        refine NX.seq ?_
        refine WC.ret' ?_
        obtain rfl := Option.some.inj hF
        exact NX.end (rs := [.tmp 4]) (vs := [.int .i64 i3]) rfl ⟨rfl, trivial⟩ ⟨_, rfl, rfl, he2⟩

-- loop.example/g00861/impl.hyperPeriod
def F_impl_hyperPeriod (n : Nat) (a0_list : List S_Clock) (a1_a : Int) (a2_b : Int) : Option Int := (Option.bind (F_impl_waveOf n a0_list a1_a) fun r3 => (Option.bind (F_impl_waveOf n a0_list a2_b) fun r9 => (Option.bind (F_impl_gcd n r3.period_ r9.period_) fun r15 => (bif (r15 == 0) then none else (some (IntKind.wrap IntKind.i64 ((IntKind.wrap IntKind.i64 (Int.tdiv r3.period_ r15)) * r9.period_)))))))
set_option maxHeartbeats 40000000 in
theorem W_impl_hyperPeriod {n : Nat} {a0_list : List S_Clock} {a1_a : Int} {a2_b : Int} {r : Int} {w : World} {v1 : Value} (hF : F_impl_hyperPeriod n a0_list a1_a a2_b = some r) (ha2 : slRep C_Clock w (Iv 0 w.heap.size) a0_list v1) :
    Calls Tryd.prog 61 [v1, .int .i64 a1_a, .int .i64 a2_b].toArray w (Ret fun u w2 => u = .int .i64 r ∧ Ext w w2) := by
  refine calls_of Tryd.func61 rfl Tryd.ntmps61 ?_
  have he0 : Ext w w := Ext.refl w
  unfold F_impl_hyperPeriod at hF
  refine WC.seq ?_
  refine WC.region ?_
  refine TL.yld rfl rfl (yld_assign rfl rfl) ?_
  refine TL.done ?_
  refine NX.seq ?_
  refine WC.seq ?_
  refine WC.region ?_
  refine TL.yld rfl rfl (yld_move rfl rfl) ?_
  refine TL.yld rfl rfl (yld_move rfl rfl) ?_
  obtain ⟨r3, hr4, hF⟩ := bsome hF
  refine TL.eff rfl rfl (eff_call rfl gf_64 rfl (W_impl_waveOf hr4 ((slRep.old ha2 he0 (Nat.le_refl _)).wide (Nat.le_refl _) (he0).size))) ?_
  rintro _ w5 ⟨rfl, hx6⟩
  have he7 : Ext w w5 := Ext.trans he0 hx6
  have hz8 := (hx6).size
  refine TL.yld rfl rfl (yld_field1 rfl ft_84_0 ag_2 rfl rfl) ?_
  refine TL.yld rfl rfl (yld_move rfl rfl) ?_
  refine TL.yld rfl rfl (yld_move rfl rfl) ?_
  obtain ⟨r9, hr10, hF⟩ := bsome hF
  refine TL.eff rfl rfl (eff_call rfl gf_64 rfl (W_impl_waveOf hr10 ((slRep.old ha2 he7 (Nat.le_refl _)).wide (Nat.le_refl _) (he7).size))) ?_
  rintro _ w11 ⟨rfl, hx12⟩
  have he13 : Ext w w11 := Ext.trans he7 hx12
  have hz14 := (hx12).size
  refine TL.yld rfl rfl (yld_field1 rfl ft_84_0 ag_2 rfl rfl) ?_
  refine TL.yld rfl rfl (yld_assign rfl rfl) ?_
  refine TL.yld rfl rfl (yld_assign rfl rfl) ?_
  refine TL.done ?_
  refine NX.seq ?_
  refine WC.seq ?_
  refine WC.region ?_
  refine TL.yld rfl rfl (yld_move rfl rfl) ?_
  refine TL.yld rfl rfl (yld_move rfl rfl) ?_
  refine TL.yld rfl rfl (yld_move rfl rfl) ?_
  obtain ⟨r15, hr16, hF⟩ := bsome hF
  refine TL.eff rfl rfl (eff_call rfl gf_103 rfl (W_impl_gcd hr16)) ?_
  rintro _ w17 ⟨rfl, hx18⟩
  have he19 : Ext w w17 := Ext.trans he13 hx18
  have hz20 := (hx18).size
  obtain ⟨hn21, hF⟩ := nzero hF
  refine TL.yld rfl rfl (yld_quo rfl rfl rfl hn21) ?_
  refine TL.yld rfl rfl (yld_move rfl rfl) ?_
  refine TL.yld rfl rfl (yld_mul rfl rfl rfl) ?_
  refine TL.yld rfl rfl (yld_assign rfl rfl) ?_
  refine TL.done ?_
  refine NX.seq ?_
  refine WC.ret' ?_
  obtain rfl := Option.some.inj hF
  exact NX.end (rs := [.tmp 6]) (vs := [.int .i64 (IntKind.wrap IntKind.i64 ((IntKind.wrap IntKind.i64 (Int.tdiv r3.period_ r15)) * r9.period_))]) rfl ⟨rfl, trivial⟩ ⟨_, rfl, rfl, he19⟩

-- loop.example/g00861/impl.isTransition
def F_impl_isTransition (n : Nat) (a0_n : Int) : Option Bool := (some ((((a0_n == 0)) || ((a0_n == 1)))))
set_option maxHeartbeats 40000000 in
theorem W_impl_isTransition {n : Nat} {a0_n : Int} {r : Bool} {w : World} (hF : F_impl_isTransition n a0_n = some r) :
    Calls Tryd.prog 62 [.int .i64 a0_n].toArray w (Ret fun u w2 => u = .bool r ∧ Ext w w2) := by
  refine calls_of Tryd.func62 rfl Tryd.ntmps62 ?_
  have he0 : Ext w w := Ext.refl w
  unfold F_impl_isTransition at hF
  refine WC.seq ?_
  refine WC.region ?_
  refine TL.yld rfl rfl (yld_assign rfl rfl) ?_
  refine TL.done ?_
  refine NX.seq ?_
  refine WC.seq ?_
  refine WC.region ?_
  refine TL.yld rfl rfl (yld_move rfl rfl) ?_
  refine TL.yld rfl rfl (yld_eql rfl rfl rfl) ?_
  refine TL.yld rfl rfl (yld_move rfl rfl) ?_
  refine TL.cut 3 [(8, .bool ((((a0_n == 0)) || ((a0_n == 1)))))] (fun w' => Ext w w') ?_ ?_
  · rcases Bool.eq_false_or_eq_true ((a0_n == 0)) with hg1 | hg1
    ·
      refine TL.gnu (j := 2) (t := 5) rfl rfl rfl hg1 rfl ?_
      refine TL.gnu (j := 2) (t := 5) rfl rfl rfl hg1 rfl ?_
      refine TL.yld rfl rfl (yld_or_t (b2 := (a0_n == 1)) rfl rfl hg1 rfl) ?_
      exact TL.nil fun a h => ⟨h.weaken ⟨rfl, trivial⟩, Ext.refl _⟩
    ·
      refine TL.gy (j := 2) (t := 5) rfl rfl rfl hg1 rfl (yld_move rfl rfl) ?_
      refine TL.gy (j := 2) (t := 5) rfl rfl rfl hg1 rfl (yld_eql rfl rfl rfl) ?_
      refine TL.yld rfl rfl (yld_or_f rfl rfl hg1 rfl) ?_
      exact TL.nil fun a h => ⟨h.weaken ⟨rfl, trivial⟩, Ext.refl _⟩
  intro w2 hx3
  have he4 : Ext w w2 := Ext.trans he0 hx3
  have hz5 := (hx3).size
  refine TL.yld rfl rfl (yld_assign rfl rfl) ?_
  refine TL.done ?_
  refine NX.seq ?_
  refine WC.ret' ?_
  obtain rfl := Option.some.inj hF
  exact NX.end (rs := [.tmp 2]) (vs := [.bool ((((a0_n == 0)) || ((a0_n == 1))))]) rfl ⟨rfl, trivial⟩ ⟨_, rfl, rfl, he4⟩

-- loop.example/g00861/impl.rootOf
def F_impl_rootOf_L1 (a0_list : List S_Clock) (k0 : Int → Option Int) : Nat → Int → Option Int
  | 0 => fun _ => none
  | m + 1 => fun i5 => (Option.bind (getI a0_list i5) fun x6 => (bif decide (x6.Source ≥ 0) then (Option.bind (getI a0_list i5) fun x15 => (F_impl_rootOf_L1 a0_list k0 m x15.Source)) else (k0 i5)))
theorem F_impl_rootOf_L1_z (a0_list : List S_Clock) (k0 : Int → Option Int) (i5 : Int) : F_impl_rootOf_L1 a0_list k0 0 i5 = none := rfl
theorem F_impl_rootOf_L1_s (m : Nat) (a0_list : List S_Clock) (k0 : Int → Option Int) (i5 : Int) : F_impl_rootOf_L1 a0_list k0 (m + 1) i5 = (Option.bind (getI a0_list i5) fun x6 => (bif decide (x6.Source ≥ 0) then (Option.bind (getI a0_list i5) fun x15 => (F_impl_rootOf_L1 a0_list k0 m x15.Source)) else (k0 i5))) := rfl

def F_impl_rootOf (n : Nat) (a0_list : List S_Clock) (a1_k : Int) : Option Int := (F_impl_rootOf_L1 a0_list (fun i5 => (some i5)) n a1_k)
set_option maxHeartbeats 40000000 in
theorem W_impl_rootOf {n : Nat} {a0_list : List S_Clock} {a1_k : Int} {r : Int} {w : World} {v1 : Value} (hF : F_impl_rootOf n a0_list a1_k = some r) (ha2 : slRep C_Clock w (Iv 0 w.heap.size) a0_list v1) :
    Calls Tryd.prog 97 [v1, .int .i64 a1_k].toArray w (Ret fun u w2 => u = .int .i64 r ∧ Ext w w2) := by
  refine calls_of Tryd.func97 rfl Tryd.ntmps97 ?_
  have he0 : Ext w w := Ext.refl w
  unfold F_impl_rootOf at hF
  refine WC.seq ?_
  refine WC.region ?_
  refine TL.yld rfl rfl (yld_assign rfl rfl) ?_
  refine TL.done ?_
  refine NX.seq ?_
  refine WC.seq ?_
  refine WC.block ?_
  refine WC.loop (fun m6 a wl => ∃ (i5 : Int), Kn 17 [(0, v1), (1, .int .i64 i5)] a ∧ Ext w wl ∧ w.heap.size ≤ wl.heap.size ∧ F_impl_rootOf_L1 a0_list (fun i5 => (some i5)) m6 i5 = some r) n ?_ ?_
  · intro a hK; exact ⟨a1_k, hK.weaken ⟨rfl, rfl, trivial⟩, he0, Nat.le_refl _, hF⟩
  · rintro m6 a w3 ⟨i5, hK, he4, hz7, hF⟩
    revert hK; revert a; refine (?_ : WC _ _ _ _ _ _)
    cases m6 with
    | zero => rw [F_impl_rootOf_L1_z] at hF; cases hF
    | succ m6 =>
      rw [F_impl_rootOf_L1_s] at hF
      refine WC.seq ?_
      refine WC.seq ?_
      refine WC.region ?_
      refine TL.yld rfl rfl (yld_move rfl rfl) ?_
      refine TL.yld rfl rfl (yld_move rfl rfl) ?_
      obtain ⟨x8, hy9, hF⟩ := bsome hF
      refine TL.ye rfl rfl (ye_index (c := C_Clock) rfl Tryd.underlying26 cn_75 rfl rfl (slRep.old ha2 he4 (Nat.le_refl _)) hy9) ?_
      rintro _ ⟨b10, o11, us12, rfl, hib15, hr13, hcl14⟩
      have hib15 : 0 ≤ b10 ∧ b10 < w.heap.size := ⟨hib15.1, by have := hib15.2; omega⟩
      obtain rfl := C_Clock_open hr13
      refine TL.yld rfl rfl (yld_fieldAddr rfl fo_75_5 rfl) ?_
      refine TL.yld rfl rfl (yld_load1 5 rfl ag_2 rfl hcl14 rfl rfl) ?_
      refine TL.yld rfl rfl (yld_geq rfl rfl rfl) ?_
      refine TL.done ?_
      refine NX.seq ?_
      refine WC.cond rfl ?_ ?_
      · intro hc16
        replace hF := bif_t hc16 hF
        refine WC.skip' ?_
        refine NX.seq ?_
        refine WC.block ?_
        refine WC.region ?_
        refine TL.yld rfl rfl (yld_move rfl rfl) ?_
        refine TL.yld rfl rfl (yld_move rfl rfl) ?_
        obtain ⟨x17, hy18, hF⟩ := bsome hF
        refine TL.ye rfl rfl (ye_index (c := C_Clock) rfl Tryd.underlying26 cn_75 rfl rfl (slRep.old ha2 he4 (Nat.le_refl _)) hy18) ?_
        rintro _ ⟨b19, o20, us21, rfl, hib24, hr22, hcl23⟩
        have hib24 : 0 ≤ b19 ∧ b19 < w.heap.size := ⟨hib24.1, by have := hib24.2; omega⟩
        obtain rfl := C_Clock_open hr22
        refine TL.yld rfl rfl (yld_fieldAddr rfl fo_75_5 rfl) ?_
        refine TL.yld rfl rfl (yld_load1 5 rfl ag_2 rfl hcl23 rfl rfl) ?_
        refine TL.yld rfl rfl (yld_assign rfl rfl) ?_
        refine TL.done ?_
        refine NX.blk_n ?_
        refine NX.then_n ?_
        intro a hK; exact ⟨m6, Nat.lt_succ_self m6, x17.Source, hK.weaken ⟨rfl, rfl, trivial⟩, he4, (by omega), hF⟩
      · intro hc25
        replace hF := bif_f hc25 hF
        refine WC.exit' ?_
        refine NX.then_e ?_
        refine NX.then_e ?_
        refine NX.blk_hit ?_
        refine NX.seq ?_
        refine WC.seq ?_
        refine WC.region ?_
        refine TL.yld rfl rfl (yld_move rfl rfl) ?_
        refine TL.yld rfl rfl (yld_assign rfl rfl) ?_
        refine TL.done ?_
        refine NX.seq ?_
        refine WC.ret' ?_
        obtain rfl := Option.some.inj hF
        exact NX.end (rs := [.tmp 4]) (vs := [.int .i64 i5]) rfl ⟨rfl, trivial⟩ ⟨_, rfl, rfl, he4⟩

end Go.Proofs.YthjagnioabgceabDoor
