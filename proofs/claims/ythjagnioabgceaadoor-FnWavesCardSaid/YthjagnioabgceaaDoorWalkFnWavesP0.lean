/- The walks: every function that FnWaves reaches computes the plain function that is typed beside it; no condition. -/
import Derived.Test.YthjagnioabgceaaDoorProg
import Derived.Test.YthjagnioabgceaaDoorDat
import Derived.Test.YthjagnioabgceaaDoorShelf
set_option linter.all false
set_option maxRecDepth 20000
namespace Go.Proofs.YthjagnioabgceaaDoor
open Go Go.RowKit Go.Eng
theorem Tryd.hm : Tryd.prog.follows .mixedOrders = true := by kernel_rfl
theorem ag_2 : aggB Tryd.prog 2 = some false := by kernel_rfl
theorem ag_3 : aggB Tryd.prog 3 = some false := by kernel_rfl
theorem ag_32 : aggB Tryd.prog 32 = some false := by kernel_rfl
theorem ag_4 : aggB Tryd.prog 4 = some false := by kernel_rfl
theorem ag_45 : aggB Tryd.prog 45 = some true := by kernel_rfl
theorem ag_5 : aggB Tryd.prog 5 = some false := by kernel_rfl
theorem ag_60 : aggB Tryd.prog 60 = some true := by kernel_rfl
theorem ag_71 : aggB Tryd.prog 71 = some true := by kernel_rfl
theorem ag_9 : aggB Tryd.prog 9 = some false := by kernel_rfl
theorem cn_2 : cellsN Tryd.prog 2 = some 1 := by kernel_rfl
theorem cn_3 : cellsN Tryd.prog 3 = some 1 := by kernel_rfl
theorem cn_4 : cellsN Tryd.prog 4 = some 1 := by kernel_rfl
theorem cn_45 : cellsN Tryd.prog 45 = some 11 := by kernel_rfl
theorem cn_5 : cellsN Tryd.prog 5 = some 1 := by kernel_rfl
theorem cn_60 : cellsN Tryd.prog 60 = some 3 := by kernel_rfl
theorem cn_71 : cellsN Tryd.prog 71 = some 3 := by kernel_rfl
theorem cn_9 : cellsN Tryd.prog 9 = some 1 := by kernel_rfl
theorem fo_45_0 : fieldOff Tryd.prog 45 0 = some 0 := by kernel_rfl
theorem fo_45_1 : fieldOff Tryd.prog 45 1 = some 1 := by kernel_rfl
theorem fo_45_10 : fieldOff Tryd.prog 45 10 = some 10 := by kernel_rfl
theorem fo_45_2 : fieldOff Tryd.prog 45 2 = some 2 := by kernel_rfl
theorem fo_45_3 : fieldOff Tryd.prog 45 3 = some 3 := by kernel_rfl
theorem fo_45_4 : fieldOff Tryd.prog 45 4 = some 4 := by kernel_rfl
theorem fo_45_5 : fieldOff Tryd.prog 45 5 = some 5 := by kernel_rfl
theorem fo_45_6 : fieldOff Tryd.prog 45 6 = some 6 := by kernel_rfl
theorem fo_45_7 : fieldOff Tryd.prog 45 7 = some 7 := by kernel_rfl
theorem fo_45_8 : fieldOff Tryd.prog 45 8 = some 8 := by kernel_rfl
theorem fo_45_9 : fieldOff Tryd.prog 45 9 = some 9 := by kernel_rfl
theorem fo_60_0 : fieldOff Tryd.prog 60 0 = some 0 := by kernel_rfl
theorem fo_60_1 : fieldOff Tryd.prog 60 1 = some 1 := by kernel_rfl
theorem fo_60_2 : fieldOff Tryd.prog 60 2 = some 2 := by kernel_rfl
theorem fo_71_0 : fieldOff Tryd.prog 71 0 = some 0 := by kernel_rfl
theorem fo_71_1 : fieldOff Tryd.prog 71 1 = some 1 := by kernel_rfl
theorem fo_90_0 : fieldOff Tryd.prog 90 0 = some 0 := by kernel_rfl
theorem fo_90_1 : fieldOff Tryd.prog 90 1 = some 1 := by kernel_rfl
theorem fo_90_2 : fieldOff Tryd.prog 90 2 = some 2 := by kernel_rfl
theorem ft_60_0 : fieldT Tryd.prog 60 0 = some (2, 0) := by kernel_rfl
theorem ft_71_0 : fieldT Tryd.prog 71 0 = some (2, 0) := by kernel_rfl
theorem gf_16 : goFn Tryd.prog 16 = true := by kernel_rfl
theorem gf_18 : goFn Tryd.prog 18 = true := by kernel_rfl
theorem gf_20 : goFn Tryd.prog 20 = true := by kernel_rfl
theorem gf_21 : goFn Tryd.prog 21 = true := by kernel_rfl
theorem gf_22 : goFn Tryd.prog 22 = true := by kernel_rfl
theorem gf_33 : goFn Tryd.prog 33 = true := by kernel_rfl
theorem gf_35 : goFn Tryd.prog 35 = true := by kernel_rfl
theorem gf_38 : goFn Tryd.prog 38 = true := by kernel_rfl
theorem gf_45 : goFn Tryd.prog 45 = true := by kernel_rfl
theorem gf_46 : goFn Tryd.prog 46 = true := by kernel_rfl
theorem gf_47 : goFn Tryd.prog 47 = true := by kernel_rfl
theorem gf_48 : goFn Tryd.prog 48 = true := by kernel_rfl
theorem gf_50 : goFn Tryd.prog 50 = true := by kernel_rfl
theorem gf_51 : goFn Tryd.prog 51 = true := by kernel_rfl
theorem gf_53 : goFn Tryd.prog 53 = true := by kernel_rfl
theorem gf_54 : goFn Tryd.prog 54 = true := by kernel_rfl
theorem gf_55 : goFn Tryd.prog 55 = true := by kernel_rfl
theorem gf_56 : goFn Tryd.prog 56 = true := by kernel_rfl
theorem gf_57 : goFn Tryd.prog 57 = true := by kernel_rfl
theorem gf_58 : goFn Tryd.prog 58 = true := by kernel_rfl
theorem gf_62 : goFn Tryd.prog 62 = true := by kernel_rfl
theorem gf_63 : goFn Tryd.prog 63 = true := by kernel_rfl
theorem gf_64 : goFn Tryd.prog 64 = true := by kernel_rfl
theorem gf_65 : goFn Tryd.prog 65 = true := by kernel_rfl
theorem gf_66 : goFn Tryd.prog 66 = true := by kernel_rfl
theorem gf_69 : goFn Tryd.prog 69 = true := by kernel_rfl
theorem gf_71 : goFn Tryd.prog 71 = true := by kernel_rfl
theorem gf_72 : goFn Tryd.prog 72 = true := by kernel_rfl
theorem gf_73 : goFn Tryd.prog 73 = true := by kernel_rfl
theorem gf_74 : goFn Tryd.prog 74 = true := by kernel_rfl
theorem gf_75 : goFn Tryd.prog 75 = true := by kernel_rfl
theorem gf_76 : goFn Tryd.prog 76 = true := by kernel_rfl
theorem gf_77 : goFn Tryd.prog 77 = true := by kernel_rfl
theorem gf_78 : goFn Tryd.prog 78 = true := by kernel_rfl
theorem gf_79 : goFn Tryd.prog 79 = true := by kernel_rfl
theorem gf_82 : goFn Tryd.prog 82 = true := by kernel_rfl
theorem gf_83 : goFn Tryd.prog 83 = true := by kernel_rfl
theorem gf_84 : goFn Tryd.prog 84 = true := by kernel_rfl
theorem gf_85 : goFn Tryd.prog 85 = true := by kernel_rfl
theorem gf_86 : goFn Tryd.prog 86 = true := by kernel_rfl
theorem gf_95 : goFn Tryd.prog 95 = true := by kernel_rfl
theorem in_2 : infoN Tryd.prog 2 = some ([.int .i64 0], 1, 8) := by kernel_rfl
theorem in_45 : infoN Tryd.prog 45 = some ([.string ByteArray.empty, .int .i64 0, .int .i64 0, .int .i64 0, .int .i64 0, .int .i64 0, .int .i64 0, .bool false, .int .i64 0, .int .i64 0, .int .i64 0], 11, 96) := by kernel_rfl
theorem in_5 : infoN Tryd.prog 5 = some ([.int .u8 0], 1, 1) := by kernel_rfl
theorem in_9 : infoN Tryd.prog 9 = some ([.string ByteArray.empty], 1, 16) := by kernel_rfl
theorem pl_45 : placesN Tryd.prog 45 = some [(0, 1), (1, 1), (2, 1), (3, 1), (4, 1), (5, 1), (6, 1), (7, 1), (8, 1), (9, 1), (10, 1)] := by kernel_rfl
theorem pl_60 : placesN Tryd.prog 60 = some [(0, 1), (1, 1), (2, 1)] := by kernel_rfl
theorem pl_69 : placesN Tryd.prog 69 = some [(0, 1), (1, 1)] := by kernel_rfl
theorem pl_71 : placesN Tryd.prog 71 = some [(0, 1), (1, 2)] := by kernel_rfl
theorem pl_90 : placesN Tryd.prog 90 = some [(0, 1), (1, 1), (2, 1)] := by kernel_rfl
theorem zn_45 : zeroN Tryd.prog 45 = some [.string ByteArray.empty, .int .i64 0, .int .i64 0, .int .i64 0, .int .i64 0, .int .i64 0, .int .i64 0, .bool false, .int .i64 0, .int .i64 0, .int .i64 0] := by kernel_rfl
theorem zn_60 : zeroN Tryd.prog 60 = some [.int .i64 0, .int .i64 0, .int .i64 0] := by kernel_rfl
theorem zn_69 : zeroN Tryd.prog 69 = some [.int .i64 0, .int .i64 0] := by kernel_rfl
theorem zn_71 : zeroN Tryd.prog 71 = some [.int .i64 0, .int .i64 0, .int .i64 0] := by kernel_rfl
theorem zn_90 : zeroN Tryd.prog 90 = some [.slice none 0 0, .int .i64 0, .int .i64 0] := by kernel_rfl
-- loop.example/g00861/spec.l14Of
def F_spec_l14Of : Nat → (List S_Clock) → Int → Option S_l14Wave
  | 0 => fun _ _ => none
  | n + 1 => fun a0_list a1_k => (Option.bind (getI a0_list a1_k) fun x10 => (bif decide (x10.Source < 0) then (some ((S_l14Wave.mk x10.Period x10.RiseAt x10.FallAt))) else (Option.bind (F_spec_l14Of n a0_list x10.Source) fun r37 => (bif decide (x10.Divide > 1) then (bif x10.Invert then (some ((S_l14Wave.mk (IntKind.wrap IntKind.i64 (r37.period_ * x10.Divide)) (IntKind.wrap IntKind.i64 (r37.rise_ + (IntKind.wrap IntKind.i64 ((IntKind.wrap IntKind.i64 (Int.tdiv x10.Divide 2)) * r37.period_)))) r37.rise_))) else (some ((S_l14Wave.mk (IntKind.wrap IntKind.i64 (r37.period_ * x10.Divide)) r37.rise_ (IntKind.wrap IntKind.i64 (r37.rise_ + (IntKind.wrap IntKind.i64 ((IntKind.wrap IntKind.i64 (Int.tdiv x10.Divide 2)) * r37.period_)))))))) else (bif x10.Invert then (some ((S_l14Wave.mk r37.period_ r37.fall_ r37.rise_))) else (some r37))))))
theorem F_spec_l14Of_z (a0_list : List S_Clock) (a1_k : Int) : F_spec_l14Of 0 a0_list a1_k = none := rfl
theorem F_spec_l14Of_s (n : Nat) (a0_list : List S_Clock) (a1_k : Int) : F_spec_l14Of (n + 1) a0_list a1_k = (Option.bind (getI a0_list a1_k) fun x10 => (bif decide (x10.Source < 0) then (some ((S_l14Wave.mk x10.Period x10.RiseAt x10.FallAt))) else (Option.bind (F_spec_l14Of n a0_list x10.Source) fun r37 => (bif decide (x10.Divide > 1) then (bif x10.Invert then (some ((S_l14Wave.mk (IntKind.wrap IntKind.i64 (r37.period_ * x10.Divide)) (IntKind.wrap IntKind.i64 (r37.rise_ + (IntKind.wrap IntKind.i64 ((IntKind.wrap IntKind.i64 (Int.tdiv x10.Divide 2)) * r37.period_)))) r37.rise_))) else (some ((S_l14Wave.mk (IntKind.wrap IntKind.i64 (r37.period_ * x10.Divide)) r37.rise_ (IntKind.wrap IntKind.i64 (r37.rise_ + (IntKind.wrap IntKind.i64 ((IntKind.wrap IntKind.i64 (Int.tdiv x10.Divide 2)) * r37.period_)))))))) else (bif x10.Invert then (some ((S_l14Wave.mk r37.period_ r37.fall_ r37.rise_))) else (some r37)))))) := rfl
set_option maxHeartbeats 40000000 in
theorem W_spec_l14Of {n : Nat} {a0_list : List S_Clock} {a1_k : Int} {r : S_l14Wave} {w : World} {v1 : Value} (hF : F_spec_l14Of n a0_list a1_k = some r) (ha2 : slRep C_Clock w (Iv 0 w.heap.size) a0_list v1) :
    Calls Tryd.prog 48 [v1, .int .i64 a1_k].toArray w (Ret fun u w2 => u = .agg #[.int .i64 r.period_, .int .i64 r.rise_, .int .i64 r.fall_] ∧ Ext w w2) := by
  cases n with
  | zero => rw [F_spec_l14Of_z] at hF; cases hF
  | succ n =>
    refine calls_of Tryd.func48 rfl Tryd.ntmps48 ?_
    have he0 : Ext w w := Ext.refl w
    rw [F_spec_l14Of_s] at hF
    refine WC.seq ?_
    refine WC.region ?_
    refine TL.eff rfl rfl (eff_alloc rfl zn_60) ?_
    rintro _ w4 ⟨b3, rfl, hn5⟩
    obtain ⟨hn5e, hn5s, hn5x, hb6⟩ := hn5
    have hb6 : Box w4 b3 [.int .i64 0, .int .i64 0, .int .i64 0] 60 := hb6
    have he8 : Ext w w4 := Ext.trans he0 hn5x
    have hz9 := (hn5x).size
    have hlo7 : w.heap.size ≤ b3 := by rw [hn5e]; exact (he0).size
    refine TL.done ?_
    refine NX.seq ?_
    refine WC.seq ?_
    refine WC.region ?_
    refine TL.yld rfl rfl (yld_move rfl rfl) ?_
    refine TL.yld rfl rfl (yld_move rfl rfl) ?_
    obtain ⟨x10, hy11, hF⟩ := bsome hF
    refine TL.ye rfl rfl (ye_index (c := C_Clock) rfl Tryd.underlying25 cn_45 rfl rfl (slRep.old ha2 he8 (Nat.le_refl _)) hy11) ?_
    rintro _ ⟨b12, o13, us14, rfl, hib17, hr15, hcl16⟩
    have hib17 : 0 ≤ b12 ∧ b12 < w.heap.size := ⟨hib17.1, by have := hib17.2; omega⟩
    obtain rfl := C_Clock_open hr15
    refine TL.yld rfl rfl (yld_loadN (us := [.string x10.Name, .int .i64 x10.Place, .int .i64 x10.Period, .int .i64 x10.RiseAt, .int .i64 x10.FallAt, .int .i64 x10.Source, .int .i64 x10.Divide, .bool x10.Invert, .int .i64 x10.EarlyLatency, .int .i64 x10.LateLatency, .int .i64 x10.Uncertainty]) rfl ag_45 rfl hcl16 cn_45) ?_
    refine TL.eff rfl rfl (eff_alloc rfl zn_45) ?_
    rintro _ w19 ⟨b18, rfl, hn20⟩
    obtain ⟨hn20e, hn20s, hn20x, hb21⟩ := hn20
    have hb21 : Box w19 b18 [.string ByteArray.empty, .int .i64 0, .int .i64 0, .int .i64 0, .int .i64 0, .int .i64 0, .int .i64 0, .bool false, .int .i64 0, .int .i64 0, .int .i64 0] 45 := hb21
    have he23 : Ext w w19 := Ext.trans he8 hn20x
    have hb6 := Box.ext hb6 hn20x
    have hz24 := (hn20x).size
    have hlo22 : w.heap.size ≤ b18 := by rw [hn20e]; exact (he8).size
    refine TL.eff rfl rfl (eff_store rfl rfl rfl hb21 cn_45 rfl rfl) ?_
    rintro _ w25 ⟨hu26, hb27⟩
    have he28 : Ext w w25 := Below.trans he23 (Upd.below hu26 (by omega))
    have hb6 := Box.upd hb6 hu26 (by omega)
    have hz29 := (hu26).size
    have hb21 : Box w25 b18 [.string x10.Name, .int .i64 x10.Place, .int .i64 x10.Period, .int .i64 x10.RiseAt, .int .i64 x10.FallAt, .int .i64 x10.Source, .int .i64 x10.Divide, .bool x10.Invert, .int .i64 x10.EarlyLatency, .int .i64 x10.LateLatency, .int .i64 x10.Uncertainty] 45 := hb27
    refine TL.done ?_
    refine NX.seq ?_
    refine WC.seq ?_
    refine WC.seq ?_
    refine WC.region ?_
    refine TL.yld rfl rfl (yld_fieldAddr rfl fo_45_5 rfl) ?_
    refine TL.yld rfl rfl (yld_load1 5 rfl ag_2 rfl (Box.cells hb21) rfl rfl) ?_
    refine TL.yld rfl rfl (yld_lss rfl rfl rfl) ?_
    refine TL.done ?_
    refine NX.seq ?_
    refine WC.cond rfl ?_ ?_
    · intro hc30
      replace hF := bif_t hc30 hF
      refine WC.seq ?_
      refine WC.region ?_
      refine TL.yld rfl rfl (yld_fieldAddr rfl fo_45_2 rfl) ?_
      refine TL.yld rfl rfl (yld_load1 2 rfl ag_2 rfl (Box.cells hb21) rfl rfl) ?_
      refine TL.yld rfl rfl (yld_fieldAddr rfl fo_45_3 rfl) ?_
      refine TL.yld rfl rfl (yld_load1 3 rfl ag_2 rfl (Box.cells hb21) rfl rfl) ?_
      refine TL.yld rfl rfl (yld_fieldAddr rfl fo_45_4 rfl) ?_
      refine TL.yld rfl rfl (yld_load1 4 rfl ag_2 rfl (Box.cells hb21) rfl rfl) ?_
      refine TL.yld rfl rfl (yld_build (uss := [(0, [.int .i64 x10.Period]), (1, [.int .i64 x10.RiseAt]), (2, [.int .i64 x10.FallAt])]) (out := [.int .i64 x10.Period, .int .i64 x10.RiseAt, .int .i64 x10.FallAt]) rfl rfl zn_60 pl_60 rfl rfl) ?_
      refine TL.eff rfl rfl (eff_store rfl rfl rfl hb6 cn_60 rfl rfl) ?_
      rintro _ w31 ⟨hu32, hb33⟩
      have he34 : Ext w w31 := Below.trans he28 (Upd.below hu32 (by omega))
      have hb21 := Box.upd hb21 hu32 (by omega)
      have hz35 := (hu32).size
      have hb6 : Box w31 b3 [.int .i64 x10.Period, .int .i64 x10.RiseAt, .int .i64 x10.FallAt] 60 := hb33
      refine TL.done ?_
      refine NX.seq ?_
      refine WC.ret' ?_
      refine NX.then_r ?_
      obtain rfl := Option.some.inj hF
      exact NX.end (rs := [.cell 4 60]) (vs := [.agg #[.int .i64 x10.Period, .int .i64 x10.RiseAt, .int .i64 x10.FallAt]]) rfl ⟨⟨b3, rfl, box_load ag_60 cn_60 hb6⟩, trivial⟩ ⟨_, rfl, rfl, he34⟩
    · intro hc36
      replace hF := bif_f hc36 hF
      refine WC.skip' ?_
      refine NX.seq ?_
      refine WC.seq ?_
      refine WC.region ?_
      refine TL.yld rfl rfl (yld_move rfl rfl) ?_
      refine TL.yld rfl rfl (yld_fieldAddr rfl fo_45_5 rfl) ?_
      refine TL.yld rfl rfl (yld_load1 5 rfl ag_2 rfl (Box.cells hb21) rfl rfl) ?_
      obtain ⟨r37, hr38, hF⟩ := bsome hF
      refine TL.eff rfl rfl (eff_call rfl gf_48 rfl (W_spec_l14Of hr38 ((slRep.old ha2 he28 (Nat.le_refl _)).wide (Nat.le_refl _) (he28).size))) ?_
      rintro _ w39 ⟨rfl, hx40⟩
      have he41 : Ext w w39 := Ext.trans he28 hx40
      have hb6 := Box.ext hb6 hx40
      have hb21 := Box.ext hb21 hx40
      have hz42 := (hx40).size
      refine TL.eff rfl rfl (eff_alloc rfl zn_60) ?_
      rintro _ w44 ⟨b43, rfl, hn45⟩
      obtain ⟨hn45e, hn45s, hn45x, hb46⟩ := hn45
      have hb46 : Box w44 b43 [.int .i64 0, .int .i64 0, .int .i64 0] 60 := hb46
      have he48 : Ext w w44 := Ext.trans he41 hn45x
      have hb6 := Box.ext hb6 hn45x
      have hb21 := Box.ext hb21 hn45x
      have hz49 := (hn45x).size
      have hlo47 : w.heap.size ≤ b43 := by rw [hn45e]; exact (he41).size
      refine TL.eff rfl rfl (eff_store rfl rfl rfl hb46 cn_60 rfl rfl) ?_
      rintro _ w50 ⟨hu51, hb52⟩
      have he53 : Ext w w50 := Below.trans he48 (Upd.below hu51 (by omega))
      have hb6 := Box.upd hb6 hu51 (by omega)
      have hb21 := Box.upd hb21 hu51 (by omega)
      have hz54 := (hu51).size
      have hb46 : Box w50 b43 [.int .i64 r37.period_, .int .i64 r37.rise_, .int .i64 r37.fall_] 60 := hb52
      refine TL.done ?_
      refine NX.seq ?_
      refine WC.seq ?_
      refine WC.seq ?_
      refine WC.region ?_
      refine TL.yld rfl rfl (yld_fieldAddr rfl fo_45_6 rfl) ?_
      refine TL.yld rfl rfl (yld_load1 6 rfl ag_2 rfl (Box.cells hb21) rfl rfl) ?_
      refine TL.yld rfl rfl (yld_gtr rfl rfl rfl) ?_
      refine TL.done ?_
      refine NX.seq ?_
      refine WC.cond rfl ?_ ?_
      · intro hc55
        replace hF := bif_t hc55 hF
        refine WC.region ?_
        refine TL.yld rfl rfl (yld_fieldAddr rfl fo_60_0 rfl) ?_
        refine TL.yld rfl rfl (yld_load1 0 rfl ag_2 rfl (Box.cells hb46) rfl rfl) ?_
        refine TL.yld rfl rfl (yld_fieldAddr rfl fo_45_6 rfl) ?_
        refine TL.yld rfl rfl (yld_load1 6 rfl ag_2 rfl (Box.cells hb21) rfl rfl) ?_
        refine TL.yld rfl rfl (yld_mul rfl rfl rfl) ?_
        refine TL.yld rfl rfl (yld_fieldAddr rfl fo_60_1 rfl) ?_
        refine TL.yld rfl rfl (yld_load1 1 rfl ag_2 rfl (Box.cells hb46) rfl rfl) ?_
        refine TL.yld rfl rfl (yld_fieldAddr rfl fo_60_1 rfl) ?_
        refine TL.yld rfl rfl (yld_load1 1 rfl ag_2 rfl (Box.cells hb46) rfl rfl) ?_
        refine TL.yld rfl rfl (yld_fieldAddr rfl fo_45_6 rfl) ?_
        refine TL.yld rfl rfl (yld_load1 6 rfl ag_2 rfl (Box.cells hb21) rfl rfl) ?_
        refine TL.yld rfl rfl (yld_quo rfl rfl rfl (by decide)) ?_
        refine TL.yld rfl rfl (yld_fieldAddr rfl fo_60_0 rfl) ?_
        refine TL.yld rfl rfl (yld_load1 0 rfl ag_2 rfl (Box.cells hb46) rfl rfl) ?_
        refine TL.yld rfl rfl (yld_mul rfl rfl rfl) ?_
        refine TL.yld rfl rfl (yld_add rfl rfl rfl) ?_
        refine TL.yld rfl rfl (yld_build (uss := [(0, [.int .i64 (IntKind.wrap IntKind.i64 (r37.period_ * x10.Divide))]), (1, [.int .i64 r37.rise_]), (2, [.int .i64 (IntKind.wrap IntKind.i64 (r37.rise_ + (IntKind.wrap IntKind.i64 ((IntKind.wrap IntKind.i64 (Int.tdiv x10.Divide 2)) * r37.period_))))])]) (out := [.int .i64 (IntKind.wrap IntKind.i64 (r37.period_ * x10.Divide)), .int .i64 r37.rise_, .int .i64 (IntKind.wrap IntKind.i64 (r37.rise_ + (IntKind.wrap IntKind.i64 ((IntKind.wrap IntKind.i64 (Int.tdiv x10.Divide 2)) * r37.period_))))]) rfl rfl zn_60 pl_60 rfl rfl) ?_
        refine TL.eff rfl rfl (eff_store rfl rfl rfl hb46 cn_60 rfl rfl) ?_
        rintro _ w56 ⟨hu57, hb58⟩
        have he59 : Ext w w56 := Below.trans he53 (Upd.below hu57 (by omega))
        have hb6 := Box.upd hb6 hu57 (by omega)
        have hb21 := Box.upd hb21 hu57 (by omega)
        have hz60 := (hu57).size
        have hb46 : Box w56 b43 [.int .i64 (IntKind.wrap IntKind.i64 (r37.period_ * x10.Divide)), .int .i64 r37.rise_, .int .i64 (IntKind.wrap IntKind.i64 (r37.rise_ + (IntKind.wrap IntKind.i64 ((IntKind.wrap IntKind.i64 (Int.tdiv x10.Divide 2)) * r37.period_))))] 60 := hb58
        refine TL.done ?_
        refine NX.seq ?_
        refine WC.seq ?_
        refine WC.seq ?_
        refine WC.region ?_
        refine TL.yld rfl rfl (yld_fieldAddr rfl fo_45_7 rfl) ?_
        refine TL.yld rfl rfl (yld_load1 7 rfl ag_4 rfl (Box.cells hb21) rfl rfl) ?_
        refine TL.done ?_
        refine NX.seq ?_
        refine WC.cond rfl ?_ ?_
        · intro hc61
          replace hF := bif_t hc61 hF
          refine WC.region ?_
          refine TL.yld rfl rfl (yld_fieldAddr rfl fo_60_0 rfl) ?_
          refine TL.yld rfl rfl (yld_load1 0 rfl ag_2 rfl (Box.cells hb46) rfl rfl) ?_
          refine TL.yld rfl rfl (yld_fieldAddr rfl fo_60_2 rfl) ?_
          refine TL.yld rfl rfl (yld_load1 2 rfl ag_2 rfl (Box.cells hb46) rfl rfl) ?_
          refine TL.yld rfl rfl (yld_fieldAddr rfl fo_60_1 rfl) ?_
          refine TL.yld rfl rfl (yld_load1 1 rfl ag_2 rfl (Box.cells hb46) rfl rfl) ?_
          refine TL.yld rfl rfl (yld_build (uss := [(0, [.int .i64 (IntKind.wrap IntKind.i64 (r37.period_ * x10.Divide))]), (1, [.int .i64 (IntKind.wrap IntKind.i64 (r37.rise_ + (IntKind.wrap IntKind.i64 ((IntKind.wrap IntKind.i64 (Int.tdiv x10.Divide 2)) * r37.period_))))]), (2, [.int .i64 r37.rise_])]) (out := [.int .i64 (IntKind.wrap IntKind.i64 (r37.period_ * x10.Divide)), .int .i64 (IntKind.wrap IntKind.i64 (r37.rise_ + (IntKind.wrap IntKind.i64 ((IntKind.wrap IntKind.i64 (Int.tdiv x10.Divide 2)) * r37.period_)))), .int .i64 r37.rise_]) rfl rfl zn_60 pl_60 rfl rfl) ?_
          refine TL.eff rfl rfl (eff_store rfl rfl rfl hb46 cn_60 rfl rfl) ?_
          rintro _ w62 ⟨hu63, hb64⟩
          have he65 : Ext w w62 := Below.trans he59 (Upd.below hu63 (by omega))
          have hb6 := Box.upd hb6 hu63 (by omega)
          have hb21 := Box.upd hb21 hu63 (by omega)
          have hz66 := (hu63).size
          have hb46 : Box w62 b43 [.int .i64 (IntKind.wrap IntKind.i64 (r37.period_ * x10.Divide)), .int .i64 (IntKind.wrap IntKind.i64 (r37.rise_ + (IntKind.wrap IntKind.i64 ((IntKind.wrap IntKind.i64 (Int.tdiv x10.Divide 2)) * r37.period_)))), .int .i64 r37.rise_] 60 := hb64
          refine TL.done ?_
          refine NX.seq ?_
          refine WC.seq ?_
          refine WC.region ?_
          refine TL.yld rfl rfl (yld_loadN (us := [.int .i64 (IntKind.wrap IntKind.i64 (r37.period_ * x10.Divide)), .int .i64 (IntKind.wrap IntKind.i64 (r37.rise_ + (IntKind.wrap IntKind.i64 ((IntKind.wrap IntKind.i64 (Int.tdiv x10.Divide 2)) * r37.period_)))), .int .i64 r37.rise_]) rfl ag_60 rfl (Box.cells hb46) cn_60) ?_
          refine TL.eff rfl rfl (eff_store rfl rfl rfl hb6 cn_60 rfl rfl) ?_
          rintro _ w67 ⟨hu68, hb69⟩
          have he70 : Ext w w67 := Below.trans he65 (Upd.below hu68 (by omega))
          have hb21 := Box.upd hb21 hu68 (by omega)
          have hb46 := Box.upd hb46 hu68 (by omega)
          have hz71 := (hu68).size
          have hb6 : Box w67 b3 [.int .i64 (IntKind.wrap IntKind.i64 (r37.period_ * x10.Divide)), .int .i64 (IntKind.wrap IntKind.i64 (r37.rise_ + (IntKind.wrap IntKind.i64 ((IntKind.wrap IntKind.i64 (Int.tdiv x10.Divide 2)) * r37.period_)))), .int .i64 r37.rise_] 60 := hb69
          refine TL.done ?_
          refine NX.seq ?_
          refine WC.ret' ?_
          obtain rfl := Option.some.inj hF
          exact NX.end (rs := [.cell 4 60]) (vs := [.agg #[.int .i64 (IntKind.wrap IntKind.i64 (r37.period_ * x10.Divide)), .int .i64 (IntKind.wrap IntKind.i64 (r37.rise_ + (IntKind.wrap IntKind.i64 ((IntKind.wrap IntKind.i64 (Int.tdiv x10.Divide 2)) * r37.period_)))), .int .i64 r37.rise_]]) rfl ⟨⟨b3, rfl, box_load ag_60 cn_60 hb6⟩, trivial⟩ ⟨_, rfl, rfl, he70⟩
        · intro hc72
          replace hF := bif_f hc72 hF
          refine WC.skip' ?_
          refine NX.seq ?_
          refine WC.seq ?_
          refine WC.region ?_
          refine TL.yld rfl rfl (yld_loadN (us := [.int .i64 (IntKind.wrap IntKind.i64 (r37.period_ * x10.Divide)), .int .i64 r37.rise_, .int .i64 (IntKind.wrap IntKind.i64 (r37.rise_ + (IntKind.wrap IntKind.i64 ((IntKind.wrap IntKind.i64 (Int.tdiv x10.Divide 2)) * r37.period_))))]) rfl ag_60 rfl (Box.cells hb46) cn_60) ?_
          refine TL.eff rfl rfl (eff_store rfl rfl rfl hb6 cn_60 rfl rfl) ?_
          rintro _ w73 ⟨hu74, hb75⟩
          have he76 : Ext w w73 := Below.trans he59 (Upd.below hu74 (by omega))
          have hb21 := Box.upd hb21 hu74 (by omega)
          have hb46 := Box.upd hb46 hu74 (by omega)
          have hz77 := (hu74).size
          have hb6 : Box w73 b3 [.int .i64 (IntKind.wrap IntKind.i64 (r37.period_ * x10.Divide)), .int .i64 r37.rise_, .int .i64 (IntKind.wrap IntKind.i64 (r37.rise_ + (IntKind.wrap IntKind.i64 ((IntKind.wrap IntKind.i64 (Int.tdiv x10.Divide 2)) * r37.period_))))] 60 := hb75
          refine TL.done ?_
          refine NX.seq ?_
          refine WC.ret' ?_
          obtain rfl := Option.some.inj hF
          exact NX.end (rs := [.cell 4 60]) (vs := [.agg #[.int .i64 (IntKind.wrap IntKind.i64 (r37.period_ * x10.Divide)), .int .i64 r37.rise_, .int .i64 (IntKind.wrap IntKind.i64 (r37.rise_ + (IntKind.wrap IntKind.i64 ((IntKind.wrap IntKind.i64 (Int.tdiv x10.Divide 2)) * r37.period_))))]]) rfl ⟨⟨b3, rfl, box_load ag_60 cn_60 hb6⟩, trivial⟩ ⟨_, rfl, rfl, he76⟩
      · intro hc78
        replace hF := bif_f hc78 hF
        refine WC.skip' ?_
        refine NX.seq ?_
        refine WC.seq ?_
        refine WC.seq ?_
        refine WC.region ?_
        refine TL.yld rfl rfl (yld_fieldAddr rfl fo_45_7 rfl) ?_
        refine TL.yld rfl rfl (yld_load1 7 rfl ag_4 rfl (Box.cells hb21) rfl rfl) ?_
        refine TL.done ?_
        refine NX.seq ?_
        refine WC.cond rfl ?_ ?_
        · intro hc79
          replace hF := bif_t hc79 hF
          refine WC.region ?_
          refine TL.yld rfl rfl (yld_fieldAddr rfl fo_60_0 rfl) ?_
          refine TL.yld rfl rfl (yld_load1 0 rfl ag_2 rfl (Box.cells hb46) rfl rfl) ?_
          refine TL.yld rfl rfl (yld_fieldAddr rfl fo_60_2 rfl) ?_
          refine TL.yld rfl rfl (yld_load1 2 rfl ag_2 rfl (Box.cells hb46) rfl rfl) ?_
          refine TL.yld rfl rfl (yld_fieldAddr rfl fo_60_1 rfl) ?_
          refine TL.yld rfl rfl (yld_load1 1 rfl ag_2 rfl (Box.cells hb46) rfl rfl) ?_
          refine TL.yld rfl rfl (yld_build (uss := [(0, [.int .i64 r37.period_]), (1, [.int .i64 r37.fall_]), (2, [.int .i64 r37.rise_])]) (out := [.int .i64 r37.period_, .int .i64 r37.fall_, .int .i64 r37.rise_]) rfl rfl zn_60 pl_60 rfl rfl) ?_
          refine TL.eff rfl rfl (eff_store rfl rfl rfl hb46 cn_60 rfl rfl) ?_
          rintro _ w80 ⟨hu81, hb82⟩
          have he83 : Ext w w80 := Below.trans he53 (Upd.below hu81 (by omega))
          have hb6 := Box.upd hb6 hu81 (by omega)
          have hb21 := Box.upd hb21 hu81 (by omega)
          have hz84 := (hu81).size
          have hb46 : Box w80 b43 [.int .i64 r37.period_, .int .i64 r37.fall_, .int .i64 r37.rise_] 60 := hb82
          refine TL.done ?_
          refine NX.seq ?_
          refine WC.seq ?_
          refine WC.region ?_
          refine TL.yld rfl rfl (yld_loadN (us := [.int .i64 r37.period_, .int .i64 r37.fall_, .int .i64 r37.rise_]) rfl ag_60 rfl (Box.cells hb46) cn_60) ?_
          refine TL.eff rfl rfl (eff_store rfl rfl rfl hb6 cn_60 rfl rfl) ?_
          rintro _ w85 ⟨hu86, hb87⟩
          have he88 : Ext w w85 := Below.trans he83 (Upd.below hu86 (by omega))
          have hb21 := Box.upd hb21 hu86 (by omega)
          have hb46 := Box.upd hb46 hu86 (by omega)
          have hz89 := (hu86).size
          have hb6 : Box w85 b3 [.int .i64 r37.period_, .int .i64 r37.fall_, .int .i64 r37.rise_] 60 := hb87
          refine TL.done ?_
          refine NX.seq ?_
          refine WC.ret' ?_
          obtain rfl := Option.some.inj hF
          exact NX.end (rs := [.cell 4 60]) (vs := [.agg #[.int .i64 r37.period_, .int .i64 r37.fall_, .int .i64 r37.rise_]]) rfl ⟨⟨b3, rfl, box_load ag_60 cn_60 hb6⟩, trivial⟩ ⟨_, rfl, rfl, he88⟩
        · intro hc90
          replace hF := bif_f hc90 hF
          refine WC.skip' ?_
          refine NX.seq ?_
          refine WC.seq ?_
          refine WC.region ?_
          refine TL.yld rfl rfl (yld_loadN (us := [.int .i64 r37.period_, .int .i64 r37.rise_, .int .i64 r37.fall_]) rfl ag_60 rfl (Box.cells hb46) cn_60) ?_
          refine TL.eff rfl rfl (eff_store rfl rfl rfl hb6 cn_60 rfl rfl) ?_
          rintro _ w91 ⟨hu92, hb93⟩
          have he94 : Ext w w91 := Below.trans he53 (Upd.below hu92 (by omega))
          have hb21 := Box.upd hb21 hu92 (by omega)
          have hb46 := Box.upd hb46 hu92 (by omega)
          have hz95 := (hu92).size
          have hb6 : Box w91 b3 [.int .i64 r37.period_, .int .i64 r37.rise_, .int .i64 r37.fall_] 60 := hb93
          refine TL.done ?_
          refine NX.seq ?_
          refine WC.ret' ?_
          obtain rfl := Option.some.inj hF
          exact NX.end (rs := [.cell 4 60]) (vs := [.agg #[.int .i64 r37.period_, .int .i64 r37.rise_, .int .i64 r37.fall_]]) rfl ⟨⟨b3, rfl, box_load ag_60 cn_60 hb6⟩, trivial⟩ ⟨_, rfl, rfl, he94⟩
termination_by n

-- loop.example/g00861/spec.l01In
def F_spec_l01In (n : Nat) (a0_n : Int) (a1_low : Int) (a2_high : Int) : Option Bool := (some (((decide (a0_n ≥ a1_low)) && (decide (a0_n ≤ a2_high)))))
set_option maxHeartbeats 40000000 in
theorem W_spec_l01In {n : Nat} {a0_n : Int} {a1_low : Int} {a2_high : Int} {r : Bool} {w : World} (hF : F_spec_l01In n a0_n a1_low a2_high = some r) :
    Calls Tryd.prog 47 [.int .i64 a0_n, .int .i64 a1_low, .int .i64 a2_high].toArray w (Ret fun u w2 => u = .bool r ∧ Ext w w2) := by
  refine calls_of Tryd.func47 rfl Tryd.ntmps47 ?_
  have he0 : Ext w w := Ext.refl w
  unfold F_spec_l01In at hF
  refine WC.seq ?_
  refine WC.region ?_
  refine TL.yld rfl rfl (yld_assign rfl rfl) ?_
  refine TL.done ?_
  refine NX.seq ?_
  refine WC.seq ?_
  refine WC.region ?_
  refine TL.yld rfl rfl (yld_move rfl rfl) ?_
  refine TL.yld rfl rfl (yld_move rfl rfl) ?_
  refine TL.yld rfl rfl (yld_geq rfl rfl rfl) ?_
  refine TL.yld rfl rfl (yld_move rfl rfl) ?_
  refine TL.cut 4 [(14, .bool (((decide (a0_n ≥ a1_low)) && (decide (a0_n ≤ a2_high)))))] (fun w' => Ext w w') ?_ ?_
  · rcases Bool.eq_false_or_eq_true (decide (a0_n ≥ a1_low)) with hg1 | hg1
    ·
      refine TL.gy (j := 3) (t := 10) rfl rfl rfl hg1 rfl (yld_move rfl rfl) ?_
      refine TL.gy (j := 3) (t := 10) rfl rfl rfl hg1 rfl (yld_move rfl rfl) ?_
      refine TL.gy (j := 3) (t := 10) rfl rfl rfl hg1 rfl (yld_leq rfl rfl rfl) ?_
      refine TL.yld rfl rfl (yld_and_t rfl rfl hg1 rfl) ?_
      exact TL.nil fun a h => ⟨h.weaken ⟨rfl, trivial⟩, Ext.refl _⟩
    ·
      refine TL.gnu (j := 3) (t := 10) rfl rfl rfl hg1 rfl ?_
      refine TL.gnu (j := 3) (t := 10) rfl rfl rfl hg1 rfl ?_
      refine TL.gnu (j := 3) (t := 10) rfl rfl rfl hg1 rfl ?_
      refine TL.yld rfl rfl (yld_and_f (b2 := decide (a0_n ≤ a2_high)) rfl rfl hg1 rfl) ?_
      exact TL.nil fun a h => ⟨h.weaken ⟨rfl, trivial⟩, Ext.refl _⟩
  intro w2 hx3
  have he4 : Ext w w2 := Ext.trans he0 hx3
  have hz5 := (hx3).size
  refine TL.yld rfl rfl (yld_assign rfl rfl) ?_
  refine TL.done ?_
  refine NX.seq ?_
  refine WC.ret' ?_
  obtain rfl := Option.some.inj hF
  exact NX.end (rs := [.tmp 6]) (vs := [.bool (((decide (a0_n ≥ a1_low)) && (decide (a0_n ≤ a2_high))))]) rfl ⟨rfl, trivial⟩ ⟨_, rfl, rfl, he4⟩

-- loop.example/g00861/spec.l03Name
def F_spec_l03Name_L1 (a0_s : ByteArray) (k0 : Int → Option Bool) : Nat → Int → Option Bool
  | 0 => fun _ => none
  | m + 1 => fun i3 => (bif decide (i3 < (a0_s.size : Int)) then (Option.bind (getB a0_s i3) fun x5 => (Option.bind (bif decide (x5 ≥ 97) then (Option.bind (getB a0_s i3) fun x7 => (some (decide (x7 ≤ 122)))) else (some false)) fun c7 => (Option.bind (getB a0_s i3) fun x16 => (Option.bind (bif decide (x16 ≥ 48) then (Option.bind (getB a0_s i3) fun x18 => (some (decide (x18 ≤ 57)))) else (some false)) fun c18 => (bif ((!c7) && ((!((c18 && (decide (i3 > 0))))))) then (some false) else (F_spec_l03Name_L1 a0_s k0 m (IntKind.wrap IntKind.i64 (i3 + 1)))))))) else (k0 i3))
theorem F_spec_l03Name_L1_z (a0_s : ByteArray) (k0 : Int → Option Bool) (i3 : Int) : F_spec_l03Name_L1 a0_s k0 0 i3 = none := rfl
theorem F_spec_l03Name_L1_s (m : Nat) (a0_s : ByteArray) (k0 : Int → Option Bool) (i3 : Int) : F_spec_l03Name_L1 a0_s k0 (m + 1) i3 = (bif decide (i3 < (a0_s.size : Int)) then (Option.bind (getB a0_s i3) fun x5 => (Option.bind (bif decide (x5 ≥ 97) then (Option.bind (getB a0_s i3) fun x7 => (some (decide (x7 ≤ 122)))) else (some false)) fun c7 => (Option.bind (getB a0_s i3) fun x16 => (Option.bind (bif decide (x16 ≥ 48) then (Option.bind (getB a0_s i3) fun x18 => (some (decide (x18 ≤ 57)))) else (some false)) fun c18 => (bif ((!c7) && ((!((c18 && (decide (i3 > 0))))))) then (some false) else (F_spec_l03Name_L1 a0_s k0 m (IntKind.wrap IntKind.i64 (i3 + 1)))))))) else (k0 i3)) := rfl

def F_spec_l03Name (n : Nat) (a0_s : ByteArray) : Option Bool := (F_spec_l03Name_L1 a0_s (fun i3 => (some (((decide ((a0_s.size : Int) ≥ 1)) && (decide ((a0_s.size : Int) ≤ 8)))))) n 0)
set_option maxHeartbeats 40000000 in
theorem W_spec_l03Name {n : Nat} {a0_s : ByteArray} {r : Bool} {w : World} (hF : F_spec_l03Name n a0_s = some r) :
    Calls Tryd.prog 71 [.string a0_s].toArray w (Ret fun u w2 => u = .bool r ∧ Ext w w2) := by
  refine calls_of Tryd.func71 rfl Tryd.ntmps71 ?_
  have he0 : Ext w w := Ext.refl w
  unfold F_spec_l03Name at hF
  refine WC.seq ?_
  refine WC.region ?_
  refine TL.yld rfl rfl (yld_assign rfl rfl) ?_
  refine TL.done ?_
  refine NX.seq ?_
  refine WC.seq ?_
  refine WC.seq ?_
  refine WC.region ?_
  refine TL.yld rfl rfl (yld_assign rfl rfl) ?_
  refine TL.done ?_
  refine NX.seq ?_
  refine WC.block ?_
  refine WC.loop (fun m4 a wl => ∃ (i3 : Int), Kn 50 [(0, .string a0_s), (3, .int .i64 i3)] a ∧ Ext w wl ∧ w.heap.size ≤ wl.heap.size ∧ F_spec_l03Name_L1 a0_s (fun i3 => (some (((decide ((a0_s.size : Int) ≥ 1)) && (decide ((a0_s.size : Int) ≤ 8)))))) m4 i3 = some r) n ?_ ?_
  · intro a hK; exact ⟨0, hK.weaken ⟨rfl, rfl, trivial⟩, he0, Nat.le_refl _, hF⟩
  · rintro m4 a w1 ⟨i3, hK, he2, hz5, hF⟩
    revert hK; revert a; refine (?_ : WC _ _ _ _ _ _)
    cases m4 with
    | zero => rw [F_spec_l03Name_L1_z] at hF; cases hF
    | succ m4 =>
      rw [F_spec_l03Name_L1_s] at hF
      refine WC.seq ?_
      refine WC.seq ?_
      refine WC.region ?_
      refine TL.yld rfl rfl (yld_move rfl rfl) ?_
      refine TL.yld rfl rfl (yld_move rfl rfl) ?_
      refine TL.yld rfl rfl (yld_lens rfl Tryd.underlying9 rfl) ?_
      refine TL.yld rfl rfl (yld_lss rfl rfl rfl) ?_
      refine TL.done ?_
      refine NX.seq ?_
      refine WC.cond rfl ?_ ?_
      · intro hc6
        replace hF := bif_t hc6 hF
        refine WC.skip' ?_
        refine NX.seq ?_
        refine WC.seq ?_
        refine WC.block ?_
        refine WC.seq ?_
        refine WC.region ?_
        refine TL.yld rfl rfl (yld_move rfl rfl) ?_
        refine TL.yld rfl rfl (yld_move rfl rfl) ?_
        obtain ⟨x7, hy8, hF⟩ := bsome hF
        refine TL.yld rfl rfl (yld_indexStr rfl Tryd.underlying9 rfl rfl hy8) ?_
        refine TL.yld rfl rfl (yld_geq rfl rfl rfl) ?_
        refine TL.yld rfl rfl (yld_move rfl rfl) ?_
        obtain ⟨c9, hb10, hF⟩ := bsome hF
        refine TL.cut 5 [(0, .string a0_s), (3, .int .i64 i3), (21, .bool c9)] (fun w' => Ext w1 w') ?_ ?_
        · rcases Bool.eq_false_or_eq_true (decide (x7 ≥ 97)) with hg11 | hg11
          ·
            rw [hg11] at hb10; simp only [cond_true, cond_false] at hb10
            replace hF := hb10
            refine TL.gy (j := 4) (t := 16) rfl rfl rfl hg11 rfl (yld_move rfl rfl) ?_
            refine TL.gy (j := 4) (t := 16) rfl rfl rfl hg11 rfl (yld_move rfl rfl) ?_
            obtain ⟨x12, hy13, hF⟩ := bsome hF
            refine TL.gy (j := 4) (t := 16) rfl rfl rfl hg11 rfl (yld_indexStr rfl Tryd.underlying9 rfl rfl hy13) ?_
            refine TL.gy (j := 4) (t := 16) rfl rfl rfl hg11 rfl (yld_leq rfl rfl rfl) ?_
            obtain rfl := Option.some.inj hF
            refine TL.yld rfl rfl (yld_pick_t rfl rfl hg11 rfl) ?_
            exact TL.nil fun a h => ⟨h.weaken ⟨rfl, rfl, rfl, trivial⟩, Ext.refl _⟩
          ·
            rw [hg11] at hb10; simp only [cond_true, cond_false] at hb10
            refine TL.gnu (j := 4) (t := 16) rfl rfl rfl hg11 rfl ?_
            refine TL.gnu (j := 4) (t := 16) rfl rfl rfl hg11 rfl ?_
            refine TL.gnu (j := 4) (t := 16) rfl rfl rfl hg11 rfl ?_
            refine TL.gnu (j := 4) (t := 16) rfl rfl rfl hg11 rfl ?_
            obtain rfl := Option.some.inj hb10
            refine TL.yld rfl rfl (yld_pick_f rfl rfl hg11 rfl) ?_
            exact TL.nil fun a h => ⟨h.weaken ⟨rfl, rfl, rfl, trivial⟩, Ext.refl _⟩
        intro w14 hx15
        have he16 : Ext w w14 := Ext.trans he2 hx15
        have hz17 := (hx15).size
        refine TL.yld rfl rfl (yld_assign rfl rfl) ?_
        refine TL.done ?_
        refine NX.seq ?_
        refine WC.seq ?_
        refine WC.region ?_
        refine TL.yld rfl rfl (yld_move rfl rfl) ?_
        refine TL.yld rfl rfl (yld_move rfl rfl) ?_
        obtain ⟨x18, hy19, hF⟩ := bsome hF
        refine TL.yld rfl rfl (yld_indexStr rfl Tryd.underlying9 rfl rfl hy19) ?_
        refine TL.yld rfl rfl (yld_geq rfl rfl rfl) ?_
        refine TL.yld rfl rfl (yld_move rfl rfl) ?_
        obtain ⟨c20, hb21, hF⟩ := bsome hF
        refine TL.cut 5 [(0, .string a0_s), (3, .int .i64 i3), (4, .bool c9), (31, .bool c20)] (fun w' => Ext w14 w') ?_ ?_
        · rcases Bool.eq_false_or_eq_true (decide (x18 ≥ 48)) with hg22 | hg22
          ·
            rw [hg22] at hb21; simp only [cond_true, cond_false] at hb21
            replace hF := hb21
            refine TL.gy (j := 4) (t := 26) rfl rfl rfl hg22 rfl (yld_move rfl rfl) ?_
            refine TL.gy (j := 4) (t := 26) rfl rfl rfl hg22 rfl (yld_move rfl rfl) ?_
            obtain ⟨x23, hy24, hF⟩ := bsome hF
            refine TL.gy (j := 4) (t := 26) rfl rfl rfl hg22 rfl (yld_indexStr rfl Tryd.underlying9 rfl rfl hy24) ?_
            refine TL.gy (j := 4) (t := 26) rfl rfl rfl hg22 rfl (yld_leq rfl rfl rfl) ?_
            obtain rfl := Option.some.inj hF
            refine TL.yld rfl rfl (yld_pick_t rfl rfl hg22 rfl) ?_
            exact TL.nil fun a h => ⟨h.weaken ⟨rfl, rfl, rfl, rfl, trivial⟩, Ext.refl _⟩
          ·
            rw [hg22] at hb21; simp only [cond_true, cond_false] at hb21
            refine TL.gnu (j := 4) (t := 26) rfl rfl rfl hg22 rfl ?_
            refine TL.gnu (j := 4) (t := 26) rfl rfl rfl hg22 rfl ?_
            refine TL.gnu (j := 4) (t := 26) rfl rfl rfl hg22 rfl ?_
            refine TL.gnu (j := 4) (t := 26) rfl rfl rfl hg22 rfl ?_
            obtain rfl := Option.some.inj hb21
            refine TL.yld rfl rfl (yld_pick_f rfl rfl hg22 rfl) ?_
            exact TL.nil fun a h => ⟨h.weaken ⟨rfl, rfl, rfl, rfl, trivial⟩, Ext.refl _⟩
        intro w25 hx26
        have he27 : Ext w w25 := Ext.trans he16 hx26
        have hz28 := (hx26).size
        refine TL.yld rfl rfl (yld_assign rfl rfl) ?_
        refine TL.done ?_
        refine NX.seq ?_
        refine WC.seq ?_
        refine WC.region ?_
        refine TL.yld rfl rfl (yld_move rfl rfl) ?_
        refine TL.yld rfl rfl (yld_not rfl rfl) ?_
        refine TL.yld rfl rfl (yld_move rfl rfl) ?_
        refine TL.cut 7 [(0, .string a0_s), (3, .int .i64 i3), (41, .bool (((!c9) && ((!((c20 && (decide (i3 > 0)))))))))] (fun w' => Ext w25 w') ?_ ?_
        · rcases Bool.eq_false_or_eq_true (!c9) with hg29 | hg29
          ·
            refine TL.gy (j := 2) (t := 34) rfl rfl rfl hg29 rfl (yld_move rfl rfl) ?_
            refine TL.gy (j := 2) (t := 34) rfl rfl rfl hg29 rfl (yld_move rfl rfl) ?_
            refine TL.cut 3 [(0, .string a0_s), (3, .int .i64 i3), (34, .bool (!c9)), (35, .bool c20), (36, .bool c20), (39, .bool ((c20 && (decide (i3 > 0)))))] (fun w' => Ext w25 w') ?_ ?_
            · rcases Bool.eq_false_or_eq_true c20 with hg30 | hg30
              ·
                refine TL.gy (j := 4) (t := 36) rfl rfl rfl hg30 rfl (yld_move rfl rfl) ?_
                refine TL.gy (j := 4) (t := 36) rfl rfl rfl hg30 rfl (yld_gtr rfl rfl rfl) ?_
                refine TL.gy (j := 2) (t := 34) rfl rfl rfl hg29 rfl (yld_and_t rfl rfl hg30 rfl) ?_
                exact TL.nil fun a h => ⟨h.weaken ⟨rfl, rfl, rfl, rfl, rfl, rfl, trivial⟩, Ext.refl _⟩
              ·
                refine TL.gnu (j := 4) (t := 36) rfl rfl rfl hg30 rfl ?_
                refine TL.gnu (j := 4) (t := 36) rfl rfl rfl hg30 rfl ?_
                refine TL.gy (j := 2) (t := 34) rfl rfl rfl hg29 rfl (yld_and_f (b2 := decide (i3 > 0)) rfl rfl hg30 rfl) ?_
                exact TL.nil fun a h => ⟨h.weaken ⟨rfl, rfl, rfl, rfl, rfl, rfl, trivial⟩, Ext.refl _⟩
            intro w31 hx32
            have he33 : Ext w w31 := Ext.trans he27 hx32
            have hz34 := (hx32).size
            refine TL.gy (j := 2) (t := 34) rfl rfl rfl hg29 rfl (yld_not rfl rfl) ?_
            refine TL.yld rfl rfl (yld_and_t rfl rfl hg29 rfl) ?_
            exact TL.nil fun a h => ⟨h.weaken ⟨rfl, rfl, rfl, trivial⟩, hx32⟩
          ·
            refine TL.gnu (j := 2) (t := 34) rfl rfl rfl hg29 rfl ?_
            refine TL.gnu (j := 2) (t := 34) rfl rfl rfl hg29 rfl ?_
            refine TL.gu (j := 4) (t := 36) rfl rfl rfl rfl ?_
            refine TL.gu (j := 4) (t := 36) rfl rfl rfl rfl ?_
            refine TL.gnu (j := 2) (t := 34) rfl rfl rfl hg29 rfl ?_
            refine TL.gnu (j := 2) (t := 34) rfl rfl rfl hg29 rfl ?_
            refine TL.yld rfl rfl (yld_and_f (b2 := (!((c20 && (decide (i3 > 0)))))) rfl rfl hg29 rfl) ?_
            exact TL.nil fun a h => ⟨h.weaken ⟨rfl, rfl, rfl, trivial⟩, Ext.refl _⟩
        intro w35 hx36
        have he37 : Ext w w35 := Ext.trans he27 hx36
        have hz38 := (hx36).size
        refine TL.done ?_
        refine NX.seq ?_
        refine WC.cond rfl ?_ ?_
        · intro hc39
          replace hF := bif_t hc39 hF
          refine WC.seq ?_
          refine WC.region ?_
          refine TL.yld rfl rfl (yld_assign rfl rfl) ?_
          refine TL.done ?_
          refine NX.seq ?_
          refine WC.ret' ?_
          refine NX.blk_r ?_
          refine NX.then_r ?_
          refine NX.then_r ?_
          refine NX.blk_r ?_
          refine NX.then_r ?_
          obtain rfl := Option.some.inj hF
          exact NX.end (rs := [.tmp 2]) (vs := [.bool false]) rfl ⟨rfl, trivial⟩ ⟨_, rfl, rfl, he37⟩
        · intro hc40
          replace hF := bif_f hc40 hF
          refine WC.skip' ?_
          refine NX.blk_n ?_
          refine NX.seq ?_
          refine WC.region ?_
          refine TL.yld rfl rfl (yld_move rfl rfl) ?_
          refine TL.yld rfl rfl (yld_add rfl rfl rfl) ?_
          refine TL.yld rfl rfl (yld_assign rfl rfl) ?_
          refine TL.done ?_
          refine NX.then_n ?_
          intro a hK; exact ⟨m4, Nat.lt_succ_self m4, (IntKind.wrap IntKind.i64 (i3 + 1)), hK.weaken ⟨rfl, rfl, trivial⟩, he37, (by omega), hF⟩
      · intro hc41
        replace hF := bif_f hc41 hF
        refine WC.exit' ?_
        refine NX.then_e ?_
        refine NX.then_e ?_
        refine NX.blk_hit ?_
        refine NX.seq ?_
        refine WC.seq ?_
        refine WC.region ?_
        refine TL.yld rfl rfl (yld_move rfl rfl) ?_
        refine TL.yld rfl rfl (yld_lens rfl Tryd.underlying9 rfl) ?_
        refine TL.yld rfl rfl (yld_geq rfl rfl rfl) ?_
        refine TL.yld rfl rfl (yld_move rfl rfl) ?_
        refine TL.cut 4 [(49, .bool (((decide ((a0_s.size : Int) ≥ 1)) && (decide ((a0_s.size : Int) ≤ 8)))))] (fun w' => Ext w1 w') ?_ ?_
        · rcases Bool.eq_false_or_eq_true (decide ((a0_s.size : Int) ≥ 1)) with hg42 | hg42
          ·
            refine TL.gy (j := 3) (t := 45) rfl rfl rfl hg42 rfl (yld_move rfl rfl) ?_
            refine TL.gy (j := 3) (t := 45) rfl rfl rfl hg42 rfl (yld_lens rfl Tryd.underlying9 rfl) ?_
            refine TL.gy (j := 3) (t := 45) rfl rfl rfl hg42 rfl (yld_leq rfl rfl rfl) ?_
            refine TL.yld rfl rfl (yld_and_t rfl rfl hg42 rfl) ?_
            exact TL.nil fun a h => ⟨h.weaken ⟨rfl, trivial⟩, Ext.refl _⟩
          ·
            refine TL.gnu (j := 3) (t := 45) rfl rfl rfl hg42 rfl ?_
            refine TL.gnu (j := 3) (t := 45) rfl rfl rfl hg42 rfl ?_
            refine TL.gnu (j := 3) (t := 45) rfl rfl rfl hg42 rfl ?_
            refine TL.yld rfl rfl (yld_and_f (b2 := decide ((a0_s.size : Int) ≤ 8)) rfl rfl hg42 rfl) ?_
            exact TL.nil fun a h => ⟨h.weaken ⟨rfl, trivial⟩, Ext.refl _⟩
        intro w43 hx44
        have he45 : Ext w w43 := Ext.trans he2 hx44
        have hz46 := (hx44).size
        refine TL.yld rfl rfl (yld_assign rfl rfl) ?_
        refine TL.done ?_
        refine NX.seq ?_
        refine WC.ret' ?_
        obtain rfl := Option.some.inj hF
        exact NX.end (rs := [.tmp 2]) (vs := [.bool (((decide ((a0_s.size : Int) ≥ 1)) && (decide ((a0_s.size : Int) ≤ 8))))]) rfl ⟨rfl, trivial⟩ ⟨_, rfl, rfl, he45⟩

-- loop.example/g00861/spec.l14Plain
def F_spec_l14Plain (n : Nat) (a0_c : S_Clock) : Option Bool := (Option.bind (F_spec_l03Name n a0_c.Name) fun r8 => (Option.bind (bif (r8 && (decide (a0_c.Place ≥ 0))) then (Option.bind (F_spec_l01In n a0_c.EarlyLatency 0 100000) fun r19 => (some r19)) else (some false)) fun c19 => (Option.bind (bif c19 then (Option.bind (F_spec_l01In n a0_c.LateLatency a0_c.EarlyLatency 100000) fun r32 => (some r32)) else (some false)) fun c32 => (Option.bind (bif c32 then (Option.bind (F_spec_l01In n a0_c.Uncertainty 0 100000) fun r45 => (some r45)) else (some false)) fun c45 => (some c45)))))
set_option maxHeartbeats 40000000 in
theorem W_spec_l14Plain {n : Nat} {a0_c : S_Clock} {r : Bool} {w : World} (hF : F_spec_l14Plain n a0_c = some r) :
    Calls Tryd.prog 45 [.agg #[.string a0_c.Name, .int .i64 a0_c.Place, .int .i64 a0_c.Period, .int .i64 a0_c.RiseAt, .int .i64 a0_c.FallAt, .int .i64 a0_c.Source, .int .i64 a0_c.Divide, .bool a0_c.Invert, .int .i64 a0_c.EarlyLatency, .int .i64 a0_c.LateLatency, .int .i64 a0_c.Uncertainty]].toArray w (Ret fun u w2 => u = .bool r ∧ Ext w w2) := by
  refine calls_of Tryd.func45 rfl Tryd.ntmps45 ?_
  have he0 : Ext w w := Ext.refl w
  unfold F_spec_l14Plain at hF
  refine WC.seq ?_
  refine WC.region ?_
  refine TL.eff rfl rfl (eff_box rfl rfl) ?_
  rintro _ w2 ⟨b1, rfl, hn3⟩
  obtain ⟨hn3e, hn3s, hn3x, hb4⟩ := hn3
  have hb4 : Box w2 b1 [.string a0_c.Name, .int .i64 a0_c.Place, .int .i64 a0_c.Period, .int .i64 a0_c.RiseAt, .int .i64 a0_c.FallAt, .int .i64 a0_c.Source, .int .i64 a0_c.Divide, .bool a0_c.Invert, .int .i64 a0_c.EarlyLatency, .int .i64 a0_c.LateLatency, .int .i64 a0_c.Uncertainty] 45 := hb4
  have he6 : Ext w w2 := Ext.trans he0 hn3x
  have hz7 := (hn3x).size
  have hlo5 : w.heap.size ≤ b1 := by rw [hn3e]; exact (he0).size
  refine TL.yld rfl rfl (yld_assign rfl rfl) ?_
  refine TL.done ?_
  refine NX.seq ?_
  refine WC.seq ?_
  refine WC.region ?_
  refine TL.yld rfl rfl (yld_fieldAddr rfl fo_45_0 rfl) ?_
  refine TL.yld rfl rfl (yld_load1 0 rfl ag_9 rfl (Box.cells hb4) rfl rfl) ?_
  obtain ⟨r8, hr9, hF⟩ := bsome hF
  refine TL.eff rfl rfl (eff_call rfl gf_71 rfl (W_spec_l03Name hr9)) ?_
  rintro _ w10 ⟨rfl, hx11⟩
  have he12 : Ext w w10 := Ext.trans he6 hx11
  have hb4 := Box.ext hb4 hx11
  have hz13 := (hx11).size
  refine TL.yld rfl rfl (yld_move rfl rfl) ?_
  refine TL.cut 4 [(1, .pointer (some ⟨b1, 0, none⟩)), (10, .bool ((r8 && (decide (a0_c.Place ≥ 0)))))] (fun w' => Ext w10 w') ?_ ?_
  · rcases Bool.eq_false_or_eq_true r8 with hg14 | hg14
    ·
      refine TL.gy (j := 3) (t := 6) rfl rfl rfl hg14 rfl (yld_fieldAddr rfl fo_45_1 rfl) ?_
      refine TL.gy (j := 3) (t := 6) rfl rfl rfl hg14 rfl (yld_load1 1 rfl ag_2 rfl (Box.cells hb4) rfl rfl) ?_
      refine TL.gy (j := 3) (t := 6) rfl rfl rfl hg14 rfl (yld_geq rfl rfl rfl) ?_
      refine TL.yld rfl rfl (yld_and_t rfl rfl hg14 rfl) ?_
      exact TL.nil fun a h => ⟨h.weaken ⟨rfl, rfl, trivial⟩, Ext.refl _⟩
    ·
      refine TL.gnu (j := 3) (t := 6) rfl rfl rfl hg14 rfl ?_
      refine TL.gnu (j := 3) (t := 6) rfl rfl rfl hg14 rfl ?_
      refine TL.gnu (j := 3) (t := 6) rfl rfl rfl hg14 rfl ?_
      refine TL.yld rfl rfl (yld_and_f (b2 := decide (a0_c.Place ≥ 0)) rfl rfl hg14 rfl) ?_
      exact TL.nil fun a h => ⟨h.weaken ⟨rfl, rfl, trivial⟩, Ext.refl _⟩
  intro w15 hx16
  have he17 : Ext w w15 := Ext.trans he12 hx16
  have hb4 := Box.ext hb4 hx16
  have hz18 := (hx16).size
  refine TL.yld rfl rfl (yld_move rfl rfl) ?_
  obtain ⟨c19, hb20, hF⟩ := bsome hF
  refine TL.cut 4 [(1, .pointer (some ⟨b1, 0, none⟩)), (15, .bool c19)] (fun w' => Ext w15 w') ?_ ?_
  · rcases Bool.eq_false_or_eq_true ((r8 && (decide (a0_c.Place ≥ 0)))) with hg21 | hg21
    ·
      rw [hg21] at hb20; simp only [cond_true, cond_false] at hb20
      replace hF := hb20
      refine TL.gy (j := 8) (t := 11) rfl rfl rfl hg21 rfl (yld_fieldAddr rfl fo_45_8 rfl) ?_
      refine TL.gy (j := 8) (t := 11) rfl rfl rfl hg21 rfl (yld_load1 8 rfl ag_2 rfl (Box.cells hb4) rfl rfl) ?_
      obtain ⟨r22, hr23, hF⟩ := bsome hF
      refine TL.ge (j := 8) (t := 11) rfl rfl rfl hg21 rfl (eff_call rfl gf_47 rfl (W_spec_l01In hr23)) ?_
      rintro _ w24 ⟨rfl, hx25⟩
      have he26 : Ext w w24 := Ext.trans he17 hx25
      have hb4 := Box.ext hb4 hx25
      have hz27 := (hx25).size
      obtain rfl := Option.some.inj hF
      refine TL.yld rfl rfl (yld_pick_t rfl rfl hg21 rfl) ?_
      exact TL.nil fun a h => ⟨h.weaken ⟨rfl, rfl, trivial⟩, hx25⟩
    ·
      rw [hg21] at hb20; simp only [cond_true, cond_false] at hb20
      refine TL.gnu (j := 8) (t := 11) rfl rfl rfl hg21 rfl ?_
      refine TL.gnu (j := 8) (t := 11) rfl rfl rfl hg21 rfl ?_
      refine TL.gnu (j := 8) (t := 11) rfl rfl rfl hg21 rfl ?_
      obtain rfl := Option.some.inj hb20
      refine TL.yld rfl rfl (yld_pick_f rfl rfl hg21 rfl) ?_
      exact TL.nil fun a h => ⟨h.weaken ⟨rfl, rfl, trivial⟩, Ext.refl _⟩
  intro w28 hx29
  have he30 : Ext w w28 := Ext.trans he17 hx29
  have hb4 := Box.ext hb4 hx29
  have hz31 := (hx29).size
  refine TL.yld rfl rfl (yld_move rfl rfl) ?_
  obtain ⟨c32, hb33, hF⟩ := bsome hF
  refine TL.cut 6 [(1, .pointer (some ⟨b1, 0, none⟩)), (22, .bool c32)] (fun w' => Ext w28 w') ?_ ?_
  · rcases Bool.eq_false_or_eq_true c19 with hg34 | hg34
    ·
      rw [hg34] at hb33; simp only [cond_true, cond_false] at hb33
      replace hF := hb33
      refine TL.gy (j := 13) (t := 16) rfl rfl rfl hg34 rfl (yld_fieldAddr rfl fo_45_9 rfl) ?_
      refine TL.gy (j := 13) (t := 16) rfl rfl rfl hg34 rfl (yld_load1 9 rfl ag_2 rfl (Box.cells hb4) rfl rfl) ?_
      refine TL.gy (j := 13) (t := 16) rfl rfl rfl hg34 rfl (yld_fieldAddr rfl fo_45_8 rfl) ?_
      refine TL.gy (j := 13) (t := 16) rfl rfl rfl hg34 rfl (yld_load1 8 rfl ag_2 rfl (Box.cells hb4) rfl rfl) ?_
      obtain ⟨r35, hr36, hF⟩ := bsome hF
      refine TL.ge (j := 13) (t := 16) rfl rfl rfl hg34 rfl (eff_call rfl gf_47 rfl (W_spec_l01In hr36)) ?_
      rintro _ w37 ⟨rfl, hx38⟩
      have he39 : Ext w w37 := Ext.trans he30 hx38
      have hb4 := Box.ext hb4 hx38
      have hz40 := (hx38).size
      obtain rfl := Option.some.inj hF
      refine TL.yld rfl rfl (yld_pick_t rfl rfl hg34 rfl) ?_
      exact TL.nil fun a h => ⟨h.weaken ⟨rfl, rfl, trivial⟩, hx38⟩
    ·
      rw [hg34] at hb33; simp only [cond_true, cond_false] at hb33
      refine TL.gnu (j := 13) (t := 16) rfl rfl rfl hg34 rfl ?_
      refine TL.gnu (j := 13) (t := 16) rfl rfl rfl hg34 rfl ?_
      refine TL.gnu (j := 13) (t := 16) rfl rfl rfl hg34 rfl ?_
      refine TL.gnu (j := 13) (t := 16) rfl rfl rfl hg34 rfl ?_
      refine TL.gnu (j := 13) (t := 16) rfl rfl rfl hg34 rfl ?_
      obtain rfl := Option.some.inj hb33
      refine TL.yld rfl rfl (yld_pick_f rfl rfl hg34 rfl) ?_
      exact TL.nil fun a h => ⟨h.weaken ⟨rfl, rfl, trivial⟩, Ext.refl _⟩
  intro w41 hx42
  have he43 : Ext w w41 := Ext.trans he30 hx42
  have hb4 := Box.ext hb4 hx42
  have hz44 := (hx42).size
  refine TL.yld rfl rfl (yld_move rfl rfl) ?_
  obtain ⟨c45, hb46, hF⟩ := bsome hF
  refine TL.cut 4 [(27, .bool c45)] (fun w' => Ext w41 w') ?_ ?_
  · rcases Bool.eq_false_or_eq_true c32 with hg47 | hg47
    ·
      rw [hg47] at hb46; simp only [cond_true, cond_false] at hb46
      replace hF := hb46
      refine TL.gy (j := 20) (t := 23) rfl rfl rfl hg47 rfl (yld_fieldAddr rfl fo_45_10 rfl) ?_
      refine TL.gy (j := 20) (t := 23) rfl rfl rfl hg47 rfl (yld_load1 10 rfl ag_2 rfl (Box.cells hb4) rfl rfl) ?_
      obtain ⟨r48, hr49, hF⟩ := bsome hF
      refine TL.ge (j := 20) (t := 23) rfl rfl rfl hg47 rfl (eff_call rfl gf_47 rfl (W_spec_l01In hr49)) ?_
      rintro _ w50 ⟨rfl, hx51⟩
      have he52 : Ext w w50 := Ext.trans he43 hx51
      have hb4 := Box.ext hb4 hx51
      have hz53 := (hx51).size
      obtain rfl := Option.some.inj hF
      refine TL.yld rfl rfl (yld_pick_t rfl rfl hg47 rfl) ?_
      exact TL.nil fun a h => ⟨h.weaken ⟨rfl, trivial⟩, hx51⟩
    ·
      rw [hg47] at hb46; simp only [cond_true, cond_false] at hb46
      refine TL.gnu (j := 20) (t := 23) rfl rfl rfl hg47 rfl ?_
      refine TL.gnu (j := 20) (t := 23) rfl rfl rfl hg47 rfl ?_
      refine TL.gnu (j := 20) (t := 23) rfl rfl rfl hg47 rfl ?_
      obtain rfl := Option.some.inj hb46
      refine TL.yld rfl rfl (yld_pick_f rfl rfl hg47 rfl) ?_
      exact TL.nil fun a h => ⟨h.weaken ⟨rfl, trivial⟩, Ext.refl _⟩
  intro w54 hx55
  have he56 : Ext w w54 := Ext.trans he43 hx55
  have hb4 := Box.ext hb4 hx55
  have hz57 := (hx55).size
  refine TL.yld rfl rfl (yld_assign rfl rfl) ?_
  refine TL.done ?_
  refine NX.seq ?_
  refine WC.ret' ?_
  obtain rfl := Option.some.inj hF
  exact NX.end (rs := [.tmp 2]) (vs := [.bool c45]) rfl ⟨rfl, trivial⟩ ⟨_, rfl, rfl, he56⟩

-- loop.example/g00861/spec.l14Primary
def F_spec_l14Primary (n : Nat) (a0_c : S_Clock) : Option Bool := (Option.bind (F_spec_l01In n a0_c.Period 2 100000) fun r8 => (Option.bind (bif r8 then (Option.bind (F_spec_l01In n a0_c.RiseAt 0 (IntKind.wrap IntKind.i64 (a0_c.Period - 1))) fun r14 => (some r14)) else (some false)) fun c14 => (Option.bind (bif c14 then (Option.bind (F_spec_l01In n a0_c.FallAt 0 (IntKind.wrap IntKind.i64 (a0_c.Period - 1))) fun r27 => (some r27)) else (some false)) fun c27 => (some ((((((c27 && ((a0_c.RiseAt != a0_c.FallAt)))) && ((a0_c.Divide == 1)))) && (!a0_c.Invert)))))))
set_option maxHeartbeats 40000000 in
theorem W_spec_l14Primary {n : Nat} {a0_c : S_Clock} {r : Bool} {w : World} (hF : F_spec_l14Primary n a0_c = some r) :
    Calls Tryd.prog 46 [.agg #[.string a0_c.Name, .int .i64 a0_c.Place, .int .i64 a0_c.Period, .int .i64 a0_c.RiseAt, .int .i64 a0_c.FallAt, .int .i64 a0_c.Source, .int .i64 a0_c.Divide, .bool a0_c.Invert, .int .i64 a0_c.EarlyLatency, .int .i64 a0_c.LateLatency, .int .i64 a0_c.Uncertainty]].toArray w (Ret fun u w2 => u = .bool r ∧ Ext w w2) := by
  refine calls_of Tryd.func46 rfl Tryd.ntmps46 ?_
  have he0 : Ext w w := Ext.refl w
  unfold F_spec_l14Primary at hF
  refine WC.seq ?_
  refine WC.region ?_
  refine TL.eff rfl rfl (eff_box rfl rfl) ?_
  rintro _ w2 ⟨b1, rfl, hn3⟩
  obtain ⟨hn3e, hn3s, hn3x, hb4⟩ := hn3
  have hb4 : Box w2 b1 [.string a0_c.Name, .int .i64 a0_c.Place, .int .i64 a0_c.Period, .int .i64 a0_c.RiseAt, .int .i64 a0_c.FallAt, .int .i64 a0_c.Source, .int .i64 a0_c.Divide, .bool a0_c.Invert, .int .i64 a0_c.EarlyLatency, .int .i64 a0_c.LateLatency, .int .i64 a0_c.Uncertainty] 45 := hb4
  have he6 : Ext w w2 := Ext.trans he0 hn3x
  have hz7 := (hn3x).size
  have hlo5 : w.heap.size ≤ b1 := by rw [hn3e]; exact (he0).size
  refine TL.yld rfl rfl (yld_assign rfl rfl) ?_
  refine TL.done ?_
  refine NX.seq ?_
  refine WC.seq ?_
  refine WC.region ?_
  refine TL.yld rfl rfl (yld_fieldAddr rfl fo_45_2 rfl) ?_
  refine TL.yld rfl rfl (yld_load1 2 rfl ag_2 rfl (Box.cells hb4) rfl rfl) ?_
  obtain ⟨r8, hr9, hF⟩ := bsome hF
  refine TL.eff rfl rfl (eff_call rfl gf_47 rfl (W_spec_l01In hr9)) ?_
  rintro _ w10 ⟨rfl, hx11⟩
  have he12 : Ext w w10 := Ext.trans he6 hx11
  have hb4 := Box.ext hb4 hx11
  have hz13 := (hx11).size
  refine TL.yld rfl rfl (yld_move rfl rfl) ?_
  obtain ⟨c14, hb15, hF⟩ := bsome hF
  refine TL.cut 7 [(1, .pointer (some ⟨b1, 0, none⟩)), (13, .bool c14)] (fun w' => Ext w10 w') ?_ ?_
  · rcases Bool.eq_false_or_eq_true r8 with hg16 | hg16
    ·
      rw [hg16] at hb15; simp only [cond_true, cond_false] at hb15
      replace hF := hb15
      refine TL.gy (j := 3) (t := 6) rfl rfl rfl hg16 rfl (yld_fieldAddr rfl fo_45_3 rfl) ?_
      refine TL.gy (j := 3) (t := 6) rfl rfl rfl hg16 rfl (yld_load1 3 rfl ag_2 rfl (Box.cells hb4) rfl rfl) ?_
      refine TL.gy (j := 3) (t := 6) rfl rfl rfl hg16 rfl (yld_fieldAddr rfl fo_45_2 rfl) ?_
      refine TL.gy (j := 3) (t := 6) rfl rfl rfl hg16 rfl (yld_load1 2 rfl ag_2 rfl (Box.cells hb4) rfl rfl) ?_
      refine TL.gy (j := 3) (t := 6) rfl rfl rfl hg16 rfl (yld_sub rfl rfl rfl) ?_
      obtain ⟨r17, hr18, hF⟩ := bsome hF
      refine TL.ge (j := 3) (t := 6) rfl rfl rfl hg16 rfl (eff_call rfl gf_47 rfl (W_spec_l01In hr18)) ?_
      rintro _ w19 ⟨rfl, hx20⟩
      have he21 : Ext w w19 := Ext.trans he12 hx20
      have hb4 := Box.ext hb4 hx20
      have hz22 := (hx20).size
      obtain rfl := Option.some.inj hF
      refine TL.yld rfl rfl (yld_pick_t rfl rfl hg16 rfl) ?_
      exact TL.nil fun a h => ⟨h.weaken ⟨rfl, rfl, trivial⟩, hx20⟩
    ·
      rw [hg16] at hb15; simp only [cond_true, cond_false] at hb15
      refine TL.gnu (j := 3) (t := 6) rfl rfl rfl hg16 rfl ?_
      refine TL.gnu (j := 3) (t := 6) rfl rfl rfl hg16 rfl ?_
      refine TL.gnu (j := 3) (t := 6) rfl rfl rfl hg16 rfl ?_
      refine TL.gnu (j := 3) (t := 6) rfl rfl rfl hg16 rfl ?_
      refine TL.gnu (j := 3) (t := 6) rfl rfl rfl hg16 rfl ?_
      refine TL.gnu (j := 3) (t := 6) rfl rfl rfl hg16 rfl ?_
      obtain rfl := Option.some.inj hb15
      refine TL.yld rfl rfl (yld_pick_f rfl rfl hg16 rfl) ?_
      exact TL.nil fun a h => ⟨h.weaken ⟨rfl, rfl, trivial⟩, Ext.refl _⟩
  intro w23 hx24
  have he25 : Ext w w23 := Ext.trans he12 hx24
  have hb4 := Box.ext hb4 hx24
  have hz26 := (hx24).size
  refine TL.yld rfl rfl (yld_move rfl rfl) ?_
  obtain ⟨c27, hb28, hF⟩ := bsome hF
  refine TL.cut 7 [(1, .pointer (some ⟨b1, 0, none⟩)), (21, .bool c27)] (fun w' => Ext w23 w') ?_ ?_
  · rcases Bool.eq_false_or_eq_true c14 with hg29 | hg29
    ·
      rw [hg29] at hb28; simp only [cond_true, cond_false] at hb28
      replace hF := hb28
      refine TL.gy (j := 11) (t := 14) rfl rfl rfl hg29 rfl (yld_fieldAddr rfl fo_45_4 rfl) ?_
      refine TL.gy (j := 11) (t := 14) rfl rfl rfl hg29 rfl (yld_load1 4 rfl ag_2 rfl (Box.cells hb4) rfl rfl) ?_
      refine TL.gy (j := 11) (t := 14) rfl rfl rfl hg29 rfl (yld_fieldAddr rfl fo_45_2 rfl) ?_
      refine TL.gy (j := 11) (t := 14) rfl rfl rfl hg29 rfl (yld_load1 2 rfl ag_2 rfl (Box.cells hb4) rfl rfl) ?_
      refine TL.gy (j := 11) (t := 14) rfl rfl rfl hg29 rfl (yld_sub rfl rfl rfl) ?_
      obtain ⟨r30, hr31, hF⟩ := bsome hF
      refine TL.ge (j := 11) (t := 14) rfl rfl rfl hg29 rfl (eff_call rfl gf_47 rfl (W_spec_l01In hr31)) ?_
      rintro _ w32 ⟨rfl, hx33⟩
      have he34 : Ext w w32 := Ext.trans he25 hx33
      have hb4 := Box.ext hb4 hx33
      have hz35 := (hx33).size
      obtain rfl := Option.some.inj hF
      refine TL.yld rfl rfl (yld_pick_t rfl rfl hg29 rfl) ?_
      exact TL.nil fun a h => ⟨h.weaken ⟨rfl, rfl, trivial⟩, hx33⟩
    ·
      rw [hg29] at hb28; simp only [cond_true, cond_false] at hb28
      refine TL.gnu (j := 11) (t := 14) rfl rfl rfl hg29 rfl ?_
      refine TL.gnu (j := 11) (t := 14) rfl rfl rfl hg29 rfl ?_
      refine TL.gnu (j := 11) (t := 14) rfl rfl rfl hg29 rfl ?_
      refine TL.gnu (j := 11) (t := 14) rfl rfl rfl hg29 rfl ?_
      refine TL.gnu (j := 11) (t := 14) rfl rfl rfl hg29 rfl ?_
      refine TL.gnu (j := 11) (t := 14) rfl rfl rfl hg29 rfl ?_
      obtain rfl := Option.some.inj hb28
      refine TL.yld rfl rfl (yld_pick_f rfl rfl hg29 rfl) ?_
      exact TL.nil fun a h => ⟨h.weaken ⟨rfl, rfl, trivial⟩, Ext.refl _⟩
  intro w36 hx37
  have he38 : Ext w w36 := Ext.trans he25 hx37
  have hb4 := Box.ext hb4 hx37
  have hz39 := (hx37).size
  refine TL.yld rfl rfl (yld_move rfl rfl) ?_
  refine TL.cut 6 [(1, .pointer (some ⟨b1, 0, none⟩)), (28, .bool ((c27 && ((a0_c.RiseAt != a0_c.FallAt)))))] (fun w' => Ext w36 w') ?_ ?_
  · rcases Bool.eq_false_or_eq_true c27 with hg40 | hg40
    ·
      refine TL.gy (j := 19) (t := 22) rfl rfl rfl hg40 rfl (yld_fieldAddr rfl fo_45_3 rfl) ?_
      refine TL.gy (j := 19) (t := 22) rfl rfl rfl hg40 rfl (yld_load1 3 rfl ag_2 rfl (Box.cells hb4) rfl rfl) ?_
      refine TL.gy (j := 19) (t := 22) rfl rfl rfl hg40 rfl (yld_fieldAddr rfl fo_45_4 rfl) ?_
      refine TL.gy (j := 19) (t := 22) rfl rfl rfl hg40 rfl (yld_load1 4 rfl ag_2 rfl (Box.cells hb4) rfl rfl) ?_
      refine TL.gy (j := 19) (t := 22) rfl rfl rfl hg40 rfl (yld_neq rfl rfl rfl) ?_
      refine TL.yld rfl rfl (yld_and_t rfl rfl hg40 rfl) ?_
      exact TL.nil fun a h => ⟨h.weaken ⟨rfl, rfl, trivial⟩, Ext.refl _⟩
    ·
      refine TL.gnu (j := 19) (t := 22) rfl rfl rfl hg40 rfl ?_
      refine TL.gnu (j := 19) (t := 22) rfl rfl rfl hg40 rfl ?_
      refine TL.gnu (j := 19) (t := 22) rfl rfl rfl hg40 rfl ?_
      refine TL.gnu (j := 19) (t := 22) rfl rfl rfl hg40 rfl ?_
      refine TL.gnu (j := 19) (t := 22) rfl rfl rfl hg40 rfl ?_
      refine TL.yld rfl rfl (yld_and_f (b2 := (a0_c.RiseAt != a0_c.FallAt)) rfl rfl hg40 rfl) ?_
      exact TL.nil fun a h => ⟨h.weaken ⟨rfl, rfl, trivial⟩, Ext.refl _⟩
  intro w41 hx42
  have he43 : Ext w w41 := Ext.trans he38 hx42
  have hb4 := Box.ext hb4 hx42
  have hz44 := (hx42).size
  refine TL.yld rfl rfl (yld_move rfl rfl) ?_
  refine TL.cut 4 [(1, .pointer (some ⟨b1, 0, none⟩)), (33, .bool ((((c27 && ((a0_c.RiseAt != a0_c.FallAt)))) && ((a0_c.Divide == 1)))))] (fun w' => Ext w41 w') ?_ ?_
  · rcases Bool.eq_false_or_eq_true ((c27 && ((a0_c.RiseAt != a0_c.FallAt)))) with hg45 | hg45
    ·
      refine TL.gy (j := 26) (t := 29) rfl rfl rfl hg45 rfl (yld_fieldAddr rfl fo_45_6 rfl) ?_
      refine TL.gy (j := 26) (t := 29) rfl rfl rfl hg45 rfl (yld_load1 6 rfl ag_2 rfl (Box.cells hb4) rfl rfl) ?_
      refine TL.gy (j := 26) (t := 29) rfl rfl rfl hg45 rfl (yld_eql rfl rfl rfl) ?_
      refine TL.yld rfl rfl (yld_and_t rfl rfl hg45 rfl) ?_
      exact TL.nil fun a h => ⟨h.weaken ⟨rfl, rfl, trivial⟩, Ext.refl _⟩
    ·
      refine TL.gnu (j := 26) (t := 29) rfl rfl rfl hg45 rfl ?_
      refine TL.gnu (j := 26) (t := 29) rfl rfl rfl hg45 rfl ?_
      refine TL.gnu (j := 26) (t := 29) rfl rfl rfl hg45 rfl ?_
      refine TL.yld rfl rfl (yld_and_f (b2 := (a0_c.Divide == 1)) rfl rfl hg45 rfl) ?_
      exact TL.nil fun a h => ⟨h.weaken ⟨rfl, rfl, trivial⟩, Ext.refl _⟩
  intro w46 hx47
  have he48 : Ext w w46 := Ext.trans he43 hx47
  have hb4 := Box.ext hb4 hx47
  have hz49 := (hx47).size
  refine TL.yld rfl rfl (yld_move rfl rfl) ?_
  refine TL.cut 4 [(38, .bool ((((((c27 && ((a0_c.RiseAt != a0_c.FallAt)))) && ((a0_c.Divide == 1)))) && (!a0_c.Invert))))] (fun w' => Ext w46 w') ?_ ?_
  · rcases Bool.eq_false_or_eq_true ((((c27 && ((a0_c.RiseAt != a0_c.FallAt)))) && ((a0_c.Divide == 1)))) with hg50 | hg50
    ·
      refine TL.gy (j := 31) (t := 34) rfl rfl rfl hg50 rfl (yld_fieldAddr rfl fo_45_7 rfl) ?_
      refine TL.gy (j := 31) (t := 34) rfl rfl rfl hg50 rfl (yld_load1 7 rfl ag_4 rfl (Box.cells hb4) rfl rfl) ?_
      refine TL.gy (j := 31) (t := 34) rfl rfl rfl hg50 rfl (yld_not rfl rfl) ?_
      refine TL.yld rfl rfl (yld_and_t rfl rfl hg50 rfl) ?_
      exact TL.nil fun a h => ⟨h.weaken ⟨rfl, trivial⟩, Ext.refl _⟩
    ·
      refine TL.gnu (j := 31) (t := 34) rfl rfl rfl hg50 rfl ?_
      refine TL.gnu (j := 31) (t := 34) rfl rfl rfl hg50 rfl ?_
      refine TL.gnu (j := 31) (t := 34) rfl rfl rfl hg50 rfl ?_
      refine TL.yld rfl rfl (yld_and_f (b2 := (!a0_c.Invert)) rfl rfl hg50 rfl) ?_
      exact TL.nil fun a h => ⟨h.weaken ⟨rfl, trivial⟩, Ext.refl _⟩
  intro w51 hx52
  have he53 : Ext w w51 := Ext.trans he48 hx52
  have hb4 := Box.ext hb4 hx52
  have hz54 := (hx52).size
  refine TL.yld rfl rfl (yld_assign rfl rfl) ?_
  refine TL.done ?_
  refine NX.seq ?_
  refine WC.ret' ?_
  obtain rfl := Option.some.inj hF
  exact NX.end (rs := [.tmp 2]) (vs := [.bool ((((((c27 && ((a0_c.RiseAt != a0_c.FallAt)))) && ((a0_c.Divide == 1)))) && (!a0_c.Invert)))]) rfl ⟨rfl, trivial⟩ ⟨_, rfl, rfl, he53⟩

-- loop.example/g00861/spec.IsClocks
def F_spec_IsClocks_L2 (a0_list : List S_Clock) (i5 : Int) (x12 : S_Clock) (k2 : Int → Option Bool) : Nat → Int → Option Bool
  | 0 => fun _ => none
  | m + 1 => fun i42 => (bif decide (i42 < i5) then (Option.bind (getI a0_list i42) fun x45 => (bif (x45.Name.toList == x12.Name.toList) then (some false) else (F_spec_IsClocks_L2 a0_list i5 x12 k2 m (IntKind.wrap IntKind.i64 (i42 + 1))))) else (k2 i42))
theorem F_spec_IsClocks_L2_z (a0_list : List S_Clock) (i5 : Int) (x12 : S_Clock) (k2 : Int → Option Bool) (i42 : Int) : F_spec_IsClocks_L2 a0_list i5 x12 k2 0 i42 = none := rfl
theorem F_spec_IsClocks_L2_s (m : Nat) (a0_list : List S_Clock) (i5 : Int) (x12 : S_Clock) (k2 : Int → Option Bool) (i42 : Int) : F_spec_IsClocks_L2 a0_list i5 x12 k2 (m + 1) i42 = (bif decide (i42 < i5) then (Option.bind (getI a0_list i42) fun x45 => (bif (x45.Name.toList == x12.Name.toList) then (some false) else (F_spec_IsClocks_L2 a0_list i5 x12 k2 m (IntKind.wrap IntKind.i64 (i42 + 1))))) else (k2 i42)) := rfl

def F_spec_IsClocks_L1 (n : Nat) (a0_list : List S_Clock) (k0 : Int → Option Bool) : Nat → Int → Option Bool
  | 0 => fun _ => none
  | m + 1 => fun i5 => (bif ((decide (i5 < (a0_list.length : Int))) && (decide ((a0_list.length : Int) ≤ 6))) then (Option.bind (getI a0_list i5) fun x12 => (Option.bind (F_spec_l14Plain n x12) fun r32 => (bif (!r32) then (some false) else (F_spec_IsClocks_L2 a0_list i5 x12 (fun i42 => (bif (x12.Source == (-1)) then (Option.bind (F_spec_l14Primary n x12) fun r45 => (bif (!r45) then (some false) else (F_spec_IsClocks_L1 n a0_list k0 m (IntKind.wrap IntKind.i64 (i5 + 1))))) else (Option.bind (F_spec_l01In n x12.Source 0 (IntKind.wrap IntKind.i64 (i5 - 1))) fun r54 => (Option.bind (bif (!r54) then (some true) else (Option.bind (F_spec_l01In n x12.Divide 1 8) fun r60 => (some (!r60)))) fun c60 => (Option.bind (bif (((((c60 || ((x12.Period != 0)))) || ((x12.RiseAt != 0)))) || ((x12.FallAt != 0))) then (some true) else (Option.bind (F_spec_l14Of n a0_list i5) fun r88 => (some (decide (r88.period_ > 100000))))) fun c88 => (bif c88 then (some false) else (F_spec_IsClocks_L1 n a0_list k0 m (IntKind.wrap IntKind.i64 (i5 + 1))))))))) n 0)))) else (k0 i5))
theorem F_spec_IsClocks_L1_z (n : Nat) (a0_list : List S_Clock) (k0 : Int → Option Bool) (i5 : Int) : F_spec_IsClocks_L1 n a0_list k0 0 i5 = none := rfl
theorem F_spec_IsClocks_L1_s (m : Nat) (n : Nat) (a0_list : List S_Clock) (k0 : Int → Option Bool) (i5 : Int) : F_spec_IsClocks_L1 n a0_list k0 (m + 1) i5 = (bif ((decide (i5 < (a0_list.length : Int))) && (decide ((a0_list.length : Int) ≤ 6))) then (Option.bind (getI a0_list i5) fun x12 => (Option.bind (F_spec_l14Plain n x12) fun r32 => (bif (!r32) then (some false) else (F_spec_IsClocks_L2 a0_list i5 x12 (fun i42 => (bif (x12.Source == (-1)) then (Option.bind (F_spec_l14Primary n x12) fun r45 => (bif (!r45) then (some false) else (F_spec_IsClocks_L1 n a0_list k0 m (IntKind.wrap IntKind.i64 (i5 + 1))))) else (Option.bind (F_spec_l01In n x12.Source 0 (IntKind.wrap IntKind.i64 (i5 - 1))) fun r54 => (Option.bind (bif (!r54) then (some true) else (Option.bind (F_spec_l01In n x12.Divide 1 8) fun r60 => (some (!r60)))) fun c60 => (Option.bind (bif (((((c60 || ((x12.Period != 0)))) || ((x12.RiseAt != 0)))) || ((x12.FallAt != 0))) then (some true) else (Option.bind (F_spec_l14Of n a0_list i5) fun r88 => (some (decide (r88.period_ > 100000))))) fun c88 => (bif c88 then (some false) else (F_spec_IsClocks_L1 n a0_list k0 m (IntKind.wrap IntKind.i64 (i5 + 1))))))))) n 0)))) else (k0 i5)) := rfl

def F_spec_IsClocks (n : Nat) (a0_list : List S_Clock) : Option Bool := (F_spec_IsClocks_L1 n a0_list (fun i5 => (some (decide ((a0_list.length : Int) ≤ 6)))) n 0)
set_option maxHeartbeats 40000000 in
theorem W_spec_IsClocks {n : Nat} {a0_list : List S_Clock} {r : Bool} {w : World} {v1 : Value} (hF : F_spec_IsClocks n a0_list = some r) (ha2 : slRep C_Clock w (Iv 0 w.heap.size) a0_list v1) :
    Calls Tryd.prog 16 [v1].toArray w (Ret fun u w2 => u = .bool r ∧ Ext w w2) := by
  refine calls_of Tryd.func16 rfl Tryd.ntmps16 ?_
  have he0 : Ext w w := Ext.refl w
  unfold F_spec_IsClocks at hF
  refine WC.seq ?_
  refine WC.region ?_
  refine TL.yld rfl rfl (yld_assign rfl rfl) ?_
  refine TL.done ?_
  refine NX.seq ?_
  refine WC.seq ?_
  refine WC.seq ?_
  refine WC.region ?_
  refine TL.yld rfl rfl (yld_assign rfl rfl) ?_
  refine TL.done ?_
  refine NX.seq ?_
  refine WC.block ?_
  refine WC.loop (fun m6 a wl => ∃ (i5 : Int), Kn 80 [(0, v1), (3, .int .i64 i5)] a ∧ Ext w wl ∧ w.heap.size ≤ wl.heap.size ∧ F_spec_IsClocks_L1 n a0_list (fun i5 => (some (decide ((a0_list.length : Int) ≤ 6)))) m6 i5 = some r) n ?_ ?_
  · intro a hK; exact ⟨0, hK.weaken ⟨rfl, rfl, trivial⟩, he0, Nat.le_refl _, hF⟩
  · rintro m6 a w3 ⟨i5, hK, he4, hz7, hF⟩
    revert hK; revert a; refine (?_ : WC _ _ _ _ _ _)
    cases m6 with
    | zero => rw [F_spec_IsClocks_L1_z] at hF; cases hF
    | succ m6 =>
      rw [F_spec_IsClocks_L1_s] at hF
      refine WC.seq ?_
      refine WC.seq ?_
      refine WC.region ?_
      refine TL.yld rfl rfl (yld_move rfl rfl) ?_
      refine TL.yld rfl rfl (yld_move rfl rfl) ?_
      refine TL.yld rfl rfl (ye_len (c := C_Clock) rfl Tryd.underlying25 rfl (slRep.old ha2 he4 (Nat.le_refl _))) ?_
      refine TL.yld rfl rfl (yld_lss rfl rfl rfl) ?_
      refine TL.yld rfl rfl (yld_move rfl rfl) ?_
      refine TL.cut 4 [(0, v1), (3, .int .i64 i5), (14, .bool (((decide (i5 < (a0_list.length : Int))) && (decide ((a0_list.length : Int) ≤ 6)))))] (fun w' => Ext w3 w') ?_ ?_
      · rcases Bool.eq_false_or_eq_true (decide (i5 < (a0_list.length : Int))) with hg8 | hg8
        ·
          refine TL.gy (j := 4) (t := 10) rfl rfl rfl hg8 rfl (yld_move rfl rfl) ?_
          refine TL.gy (j := 4) (t := 10) rfl rfl rfl hg8 rfl (ye_len (c := C_Clock) rfl Tryd.underlying25 rfl (slRep.old ha2 he4 (Nat.le_refl _))) ?_
          refine TL.gy (j := 4) (t := 10) rfl rfl rfl hg8 rfl (yld_leq rfl rfl rfl) ?_
          refine TL.yld rfl rfl (yld_and_t rfl rfl hg8 rfl) ?_
          exact TL.nil fun a h => ⟨h.weaken ⟨rfl, rfl, rfl, trivial⟩, Ext.refl _⟩
        ·
          refine TL.gnu (j := 4) (t := 10) rfl rfl rfl hg8 rfl ?_
          refine TL.gnu (j := 4) (t := 10) rfl rfl rfl hg8 rfl ?_
          refine TL.gnu (j := 4) (t := 10) rfl rfl rfl hg8 rfl ?_
          refine TL.yld rfl rfl (yld_and_f (b2 := decide ((a0_list.length : Int) ≤ 6)) rfl rfl hg8 rfl) ?_
          exact TL.nil fun a h => ⟨h.weaken ⟨rfl, rfl, rfl, trivial⟩, Ext.refl _⟩
      intro w9 hx10
      have he11 : Ext w w9 := Ext.trans he4 hx10
      have hz12 := (hx10).size
      refine TL.done ?_
      refine NX.seq ?_
      refine WC.cond rfl ?_ ?_
      · intro hc13
        replace hF := bif_t hc13 hF
        refine WC.skip' ?_
        refine NX.seq ?_
        refine WC.seq ?_
        refine WC.block ?_
        refine WC.seq ?_
        refine WC.region ?_
        refine TL.yld rfl rfl (yld_move rfl rfl) ?_
        refine TL.yld rfl rfl (yld_move rfl rfl) ?_
        obtain ⟨x14, hy15, hF⟩ := bsome hF
        refine TL.ye rfl rfl (ye_index (c := C_Clock) rfl Tryd.underlying25 cn_45 rfl rfl (slRep.old ha2 he11 (Nat.le_refl _)) hy15) ?_
        rintro _ ⟨b16, o17, us18, rfl, hib21, hr19, hcl20⟩
        have hib21 : 0 ≤ b16 ∧ b16 < w.heap.size := ⟨hib21.1, by have := hib21.2; omega⟩
        obtain rfl := C_Clock_open hr19
        refine TL.yld rfl rfl (yld_loadN (us := [.string x14.Name, .int .i64 x14.Place, .int .i64 x14.Period, .int .i64 x14.RiseAt, .int .i64 x14.FallAt, .int .i64 x14.Source, .int .i64 x14.Divide, .bool x14.Invert, .int .i64 x14.EarlyLatency, .int .i64 x14.LateLatency, .int .i64 x14.Uncertainty]) rfl ag_45 rfl hcl20 cn_45) ?_
        refine TL.eff rfl rfl (eff_alloc rfl zn_45) ?_
        rintro _ w23 ⟨b22, rfl, hn24⟩
        obtain ⟨hn24e, hn24s, hn24x, hb25⟩ := hn24
        have hb25 : Box w23 b22 [.string ByteArray.empty, .int .i64 0, .int .i64 0, .int .i64 0, .int .i64 0, .int .i64 0, .int .i64 0, .bool false, .int .i64 0, .int .i64 0, .int .i64 0] 45 := hb25
        have he27 : Ext w w23 := Ext.trans he11 hn24x
        have hz28 := (hn24x).size
        have hlo26 : w.heap.size ≤ b22 := by rw [hn24e]; exact (he11).size
        refine TL.eff rfl rfl (eff_store rfl rfl rfl hb25 cn_45 rfl rfl) ?_
        rintro _ w29 ⟨hu30, hb31⟩
        have he32 : Ext w w29 := Below.trans he27 (Upd.below hu30 (by omega))
        have hz33 := (hu30).size
        have hb25 : Box w29 b22 [.string x14.Name, .int .i64 x14.Place, .int .i64 x14.Period, .int .i64 x14.RiseAt, .int .i64 x14.FallAt, .int .i64 x14.Source, .int .i64 x14.Divide, .bool x14.Invert, .int .i64 x14.EarlyLatency, .int .i64 x14.LateLatency, .int .i64 x14.Uncertainty] 45 := hb31
        refine TL.done ?_
        refine NX.seq ?_
        refine WC.seq ?_
        refine WC.seq ?_
        refine WC.region ?_
        refine TL.yld rfl rfl (yld_loadN (us := [.string x14.Name, .int .i64 x14.Place, .int .i64 x14.Period, .int .i64 x14.RiseAt, .int .i64 x14.FallAt, .int .i64 x14.Source, .int .i64 x14.Divide, .bool x14.Invert, .int .i64 x14.EarlyLatency, .int .i64 x14.LateLatency, .int .i64 x14.Uncertainty]) rfl ag_45 rfl (Box.cells hb25) cn_45) ?_
        obtain ⟨r34, hr35, hF⟩ := bsome hF
        refine TL.eff rfl rfl (eff_call rfl gf_45 rfl (W_spec_l14Plain hr35)) ?_
        rintro _ w36 ⟨rfl, hx37⟩
        have he38 : Ext w w36 := Ext.trans he32 hx37
        have hb25 := Box.ext hb25 hx37
        have hz39 := (hx37).size
        refine TL.yld rfl rfl (yld_not rfl rfl) ?_
        refine TL.done ?_
        refine NX.seq ?_
        refine WC.cond rfl ?_ ?_
        · intro hc40
          replace hF := bif_t hc40 hF
          refine WC.seq ?_
          refine WC.region ?_
          refine TL.yld rfl rfl (yld_assign rfl rfl) ?_
          refine TL.done ?_
          refine NX.seq ?_
          refine WC.ret' ?_
          refine NX.then_r ?_
          refine NX.blk_r ?_
          refine NX.then_r ?_
          refine NX.then_r ?_
          refine NX.blk_r ?_
          refine NX.then_r ?_
          obtain rfl := Option.some.inj hF
          exact NX.end (rs := [.tmp 2]) (vs := [.bool false]) rfl ⟨rfl, trivial⟩ ⟨_, rfl, rfl, he38⟩
        · intro hc41
          replace hF := bif_f hc41 hF
          refine WC.skip' ?_
          refine NX.seq ?_
          refine WC.seq ?_
          refine WC.seq ?_
          refine WC.region ?_
          refine TL.yld rfl rfl (yld_assign rfl rfl) ?_
          refine TL.done ?_
          refine NX.seq ?_
          refine WC.block ?_
          refine WC.loop (fun m46 a wl => ∃ (i44 : Int), Kn 80 [(0, v1), (3, .int .i64 i5), (4, .pointer (some ⟨b22, 0, none⟩)), (5, .int .i64 i44)] a ∧ Ext w wl ∧ w36.heap.size ≤ wl.heap.size ∧ Box wl b22 [.string x14.Name, .int .i64 x14.Place, .int .i64 x14.Period, .int .i64 x14.RiseAt, .int .i64 x14.FallAt, .int .i64 x14.Source, .int .i64 x14.Divide, .bool x14.Invert, .int .i64 x14.EarlyLatency, .int .i64 x14.LateLatency, .int .i64 x14.Uncertainty] 45 ∧ F_spec_IsClocks_L2 a0_list i5 x14 (fun i44 => (bif (x14.Source == (-1)) then (Option.bind (F_spec_l14Primary n x14) fun r47 => (bif (!r47) then (some false) else (F_spec_IsClocks_L1 n a0_list (fun i5 => (some (decide ((a0_list.length : Int) ≤ 6)))) m6 (IntKind.wrap IntKind.i64 (i5 + 1))))) else (Option.bind (F_spec_l01In n x14.Source 0 (IntKind.wrap IntKind.i64 (i5 - 1))) fun r56 => (Option.bind (bif (!r56) then (some true) else (Option.bind (F_spec_l01In n x14.Divide 1 8) fun r62 => (some (!r62)))) fun c62 => (Option.bind (bif (((((c62 || ((x14.Period != 0)))) || ((x14.RiseAt != 0)))) || ((x14.FallAt != 0))) then (some true) else (Option.bind (F_spec_l14Of n a0_list i5) fun r90 => (some (decide (r90.period_ > 100000))))) fun c90 => (bif c90 then (some false) else (F_spec_IsClocks_L1 n a0_list (fun i5 => (some (decide ((a0_list.length : Int) ≤ 6)))) m6 (IntKind.wrap IntKind.i64 (i5 + 1))))))))) m46 i44 = some r) n ?_ ?_
          · intro a hK; exact ⟨0, hK.weaken ⟨rfl, rfl, rfl, rfl, trivial⟩, he38, Nat.le_refl _, hb25, hF⟩
          · rintro m46 a w42 ⟨i44, hK, he43, hz47, hb45, hF⟩
            revert hK; revert a; refine (?_ : WC _ _ _ _ _ _)
            cases m46 with
            | zero => rw [F_spec_IsClocks_L2_z] at hF; cases hF
            | succ m46 =>
              rw [F_spec_IsClocks_L2_s] at hF
              refine WC.seq ?_
              refine WC.seq ?_
              refine WC.region ?_
              refine TL.yld rfl rfl (yld_move rfl rfl) ?_
              refine TL.yld rfl rfl (yld_move rfl rfl) ?_
              refine TL.yld rfl rfl (yld_lss rfl rfl rfl) ?_
              refine TL.done ?_
              refine NX.seq ?_
              refine WC.cond rfl ?_ ?_
              · intro hc48
                replace hF := bif_t hc48 hF
                refine WC.skip' ?_
                refine NX.seq ?_
                refine WC.seq ?_
                refine WC.block ?_
                refine WC.seq ?_
                refine WC.quiet Tryd.hm (by kernel_rfl) ?_
                refine QL.yld rfl rfl (Yld.qui (yld_move rfl rfl)) ?_
                refine QL.yld rfl rfl (Yld.qui (yld_move rfl rfl)) ?_
                obtain ⟨x49, hy50, hF⟩ := bsome hF
                refine QL.ye rfl rfl (ye_index (c := C_Clock) rfl Tryd.underlying25 cn_45 rfl rfl (slRep.old ha2 he43 (Nat.le_refl _)) hy50) ?_
                rintro _ ⟨b51, o52, us53, rfl, hib56, hr54, hcl55⟩
                have hib56 : 0 ≤ b51 ∧ b51 < w.heap.size := ⟨hib56.1, by have := hib56.2; omega⟩
                obtain rfl := C_Clock_open hr54
                refine QL.yld rfl rfl (Yld.qui (yld_fieldAddr rfl fo_45_0 rfl)) ?_
                refine QL.yld rfl rfl (Yld.qui (yld_load1 0 rfl ag_9 rfl hcl55 rfl rfl)) ?_
                refine QL.yld rfl rfl (Yld.qui (yld_fieldAddr rfl fo_45_0 rfl)) ?_
                refine QL.yld rfl rfl (Yld.qui (yld_load1 0 rfl ag_9 rfl (Box.cells hb45) rfl rfl)) ?_
                refine QL.yld rfl rfl (Yld.qui (yld_eqs rfl rfl rfl)) ?_
                refine QL.done fun w57 hx58 => ?_
                have he59 : Ext w w57 := Ext.trans he43 hx58
                have hb45 := Box.ext hb45 hx58
                have hz60 := (hx58).size
                refine NX.seq ?_
                refine WC.cond rfl ?_ ?_
                · intro hc61
                  replace hF := bif_t hc61 hF
                  refine WC.seq ?_
                  refine WC.region ?_
                  refine TL.yld rfl rfl (yld_assign rfl rfl) ?_
                  refine TL.done ?_
                  refine NX.seq ?_
                  refine WC.ret' ?_
                  refine NX.blk_r ?_
                  refine NX.then_r ?_
                  refine NX.then_r ?_
                  refine NX.blk_r ?_
                  refine NX.then_r ?_
                  refine NX.blk_r ?_
                  refine NX.then_r ?_
                  refine NX.then_r ?_
                  refine NX.blk_r ?_
                  refine NX.then_r ?_
                  obtain rfl := Option.some.inj hF
                  exact NX.end (rs := [.tmp 2]) (vs := [.bool false]) rfl ⟨rfl, trivial⟩ ⟨_, rfl, rfl, he59⟩
                · intro hc62
                  replace hF := bif_f hc62 hF
                  refine WC.skip' ?_
                  refine NX.blk_n ?_
                  refine NX.seq ?_
                  refine WC.region ?_
                  refine TL.yld rfl rfl (yld_move rfl rfl) ?_
                  refine TL.yld rfl rfl (yld_add rfl rfl rfl) ?_
                  refine TL.yld rfl rfl (yld_assign rfl rfl) ?_
                  refine TL.done ?_
                  refine NX.then_n ?_
                  intro a hK; exact ⟨m46, Nat.lt_succ_self m46, (IntKind.wrap IntKind.i64 (i44 + 1)), hK.weaken ⟨rfl, rfl, rfl, rfl, trivial⟩, he59, (by omega), hb45, hF⟩
              · intro hc63
                replace hF := bif_f hc63 hF
                refine WC.exit' ?_
                refine NX.then_e ?_
                refine NX.then_e ?_
                refine NX.blk_hit ?_
                refine NX.seq ?_
                refine WC.seq ?_
                refine WC.seq ?_
                refine WC.region ?_
                refine TL.yld rfl rfl (yld_fieldAddr rfl fo_45_5 rfl) ?_
                refine TL.yld rfl rfl (yld_load1 5 rfl ag_2 rfl (Box.cells hb45) rfl rfl) ?_
                refine TL.yld rfl rfl (yld_eql rfl rfl rfl) ?_
                refine TL.done ?_
                refine NX.seq ?_
                refine WC.cond rfl ?_ ?_
                · intro hc64
                  replace hF := bif_t hc64 hF
                  refine WC.seq ?_
                  refine WC.seq ?_
                  refine WC.region ?_
                  refine TL.yld rfl rfl (yld_loadN (us := [.string x14.Name, .int .i64 x14.Place, .int .i64 x14.Period, .int .i64 x14.RiseAt, .int .i64 x14.FallAt, .int .i64 x14.Source, .int .i64 x14.Divide, .bool x14.Invert, .int .i64 x14.EarlyLatency, .int .i64 x14.LateLatency, .int .i64 x14.Uncertainty]) rfl ag_45 rfl (Box.cells hb45) cn_45) ?_
                  obtain ⟨r65, hr66, hF⟩ := bsome hF
                  refine TL.eff rfl rfl (eff_call rfl gf_46 rfl (W_spec_l14Primary hr66)) ?_
                  rintro _ w67 ⟨rfl, hx68⟩
                  have he69 : Ext w w67 := Ext.trans he43 hx68
                  have hb45 := Box.ext hb45 hx68
                  have hz70 := (hx68).size
                  refine TL.yld rfl rfl (yld_not rfl rfl) ?_
                  refine TL.done ?_
                  refine NX.seq ?_
                  refine WC.cond rfl ?_ ?_
                  · intro hc71
                    replace hF := bif_t hc71 hF
                    refine WC.seq ?_
                    refine WC.region ?_
                    refine TL.yld rfl rfl (yld_assign rfl rfl) ?_
                    refine TL.done ?_
                    refine NX.seq ?_
                    refine WC.ret' ?_
                    refine NX.then_r ?_
                    refine NX.then_r ?_
                    refine NX.blk_r ?_
                    refine NX.then_r ?_
                    refine NX.then_r ?_
                    refine NX.blk_r ?_
                    refine NX.then_r ?_
                    obtain rfl := Option.some.inj hF
                    exact NX.end (rs := [.tmp 2]) (vs := [.bool false]) rfl ⟨rfl, trivial⟩ ⟨_, rfl, rfl, he69⟩
                  · intro hc72
                    replace hF := bif_f hc72 hF
                    refine WC.skip' ?_
                    refine NX.seq ?_
                    refine WC.exit' ?_
                    refine NX.then_e ?_
                    refine NX.blk_hit ?_
                    refine NX.seq ?_
                    refine WC.region ?_
                    refine TL.yld rfl rfl (yld_move rfl rfl) ?_
                    refine TL.yld rfl rfl (yld_add rfl rfl rfl) ?_
                    refine TL.yld rfl rfl (yld_assign rfl rfl) ?_
                    refine TL.done ?_
                    refine NX.then_n ?_
                    intro a hK; exact ⟨m6, Nat.lt_succ_self m6, (IntKind.wrap IntKind.i64 (i5 + 1)), hK.weaken ⟨rfl, rfl, trivial⟩, he69, (by omega), hF⟩
                · intro hc73
                  replace hF := bif_f hc73 hF
                  refine WC.skip' ?_
                  refine NX.seq ?_
                  refine WC.seq ?_
                  refine WC.region ?_
                  refine TL.yld rfl rfl (yld_fieldAddr rfl fo_45_5 rfl) ?_
                  refine TL.yld rfl rfl (yld_load1 5 rfl ag_2 rfl (Box.cells hb45) rfl rfl) ?_
                  refine TL.yld rfl rfl (yld_move rfl rfl) ?_
                  refine TL.yld rfl rfl (yld_sub rfl rfl rfl) ?_
                  obtain ⟨r74, hr75, hF⟩ := bsome hF
                  refine TL.eff rfl rfl (eff_call rfl gf_47 rfl (W_spec_l01In hr75)) ?_
                  rintro _ w76 ⟨rfl, hx77⟩
                  have he78 : Ext w w76 := Ext.trans he43 hx77
                  have hb45 := Box.ext hb45 hx77
                  have hz79 := (hx77).size
                  refine TL.yld rfl rfl (yld_not rfl rfl) ?_
                  refine TL.yld rfl rfl (yld_move rfl rfl) ?_
                  obtain ⟨c80, hb81, hF⟩ := bsome hF
                  refine TL.cut 5 [(0, v1), (3, .int .i64 i5), (4, .pointer (some ⟨b22, 0, none⟩)), (54, .bool c80)] (fun w' => Ext w76 w') ?_ ?_
                  · rcases Bool.eq_false_or_eq_true (!r74) with hg82 | hg82
                    ·
                      rw [hg82] at hb81; simp only [cond_true, cond_false] at hb81
                      refine TL.gnu (j := 6) (t := 49) rfl rfl rfl hg82 rfl ?_
                      refine TL.gnu (j := 6) (t := 49) rfl rfl rfl hg82 rfl ?_
                      refine TL.gnu (j := 6) (t := 49) rfl rfl rfl hg82 rfl ?_
                      refine TL.gnu (j := 6) (t := 49) rfl rfl rfl hg82 rfl ?_
                      obtain rfl := Option.some.inj hb81
                      refine TL.yld rfl rfl (yld_pick_t rfl rfl hg82 rfl) ?_
                      exact TL.nil fun a h => ⟨h.weaken ⟨rfl, rfl, rfl, rfl, trivial⟩, Ext.refl _⟩
                    ·
                      rw [hg82] at hb81; simp only [cond_true, cond_false] at hb81
                      replace hF := hb81
                      refine TL.gy (j := 6) (t := 49) rfl rfl rfl hg82 rfl (yld_fieldAddr rfl fo_45_6 rfl) ?_
                      refine TL.gy (j := 6) (t := 49) rfl rfl rfl hg82 rfl (yld_load1 6 rfl ag_2 rfl (Box.cells hb45) rfl rfl) ?_
                      obtain ⟨r83, hr84, hF⟩ := bsome hF
                      refine TL.ge (j := 6) (t := 49) rfl rfl rfl hg82 rfl (eff_call rfl gf_47 rfl (W_spec_l01In hr84)) ?_
                      rintro _ w85 ⟨rfl, hx86⟩
                      have he87 : Ext w w85 := Ext.trans he78 hx86
                      have hb45 := Box.ext hb45 hx86
                      have hz88 := (hx86).size
                      refine TL.gy (j := 6) (t := 49) rfl rfl rfl hg82 rfl (yld_not rfl rfl) ?_
                      obtain rfl := Option.some.inj hF
                      refine TL.yld rfl rfl (yld_pick_f rfl rfl hg82 rfl) ?_
                      exact TL.nil fun a h => ⟨h.weaken ⟨rfl, rfl, rfl, rfl, trivial⟩, hx86⟩
                  intro w89 hx90
                  have he91 : Ext w w89 := Ext.trans he78 hx90
                  have hb45 := Box.ext hb45 hx90
                  have hz92 := (hx90).size
                  refine TL.yld rfl rfl (yld_move rfl rfl) ?_
                  refine TL.cut 4 [(0, v1), (3, .int .i64 i5), (4, .pointer (some ⟨b22, 0, none⟩)), (59, .bool ((c80 || ((x14.Period != 0)))))] (fun w' => Ext w89 w') ?_ ?_
                  · rcases Bool.eq_false_or_eq_true c80 with hg93 | hg93
                    ·
                      refine TL.gnu (j := 12) (t := 55) rfl rfl rfl hg93 rfl ?_
                      refine TL.gnu (j := 12) (t := 55) rfl rfl rfl hg93 rfl ?_
                      refine TL.gnu (j := 12) (t := 55) rfl rfl rfl hg93 rfl ?_
                      refine TL.yld rfl rfl (yld_or_t (b2 := (x14.Period != 0)) rfl rfl hg93 rfl) ?_
                      exact TL.nil fun a h => ⟨h.weaken ⟨rfl, rfl, rfl, rfl, trivial⟩, Ext.refl _⟩
                    ·
                      refine TL.gy (j := 12) (t := 55) rfl rfl rfl hg93 rfl (yld_fieldAddr rfl fo_45_2 rfl) ?_
                      refine TL.gy (j := 12) (t := 55) rfl rfl rfl hg93 rfl (yld_load1 2 rfl ag_2 rfl (Box.cells hb45) rfl rfl) ?_
                      refine TL.gy (j := 12) (t := 55) rfl rfl rfl hg93 rfl (yld_neq rfl rfl rfl) ?_
                      refine TL.yld rfl rfl (yld_or_f rfl rfl hg93 rfl) ?_
                      exact TL.nil fun a h => ⟨h.weaken ⟨rfl, rfl, rfl, rfl, trivial⟩, Ext.refl _⟩
                  intro w94 hx95
                  have he96 : Ext w w94 := Ext.trans he91 hx95
                  have hb45 := Box.ext hb45 hx95
                  have hz97 := (hx95).size
                  refine TL.yld rfl rfl (yld_move rfl rfl) ?_
                  refine TL.cut 4 [(0, v1), (3, .int .i64 i5), (4, .pointer (some ⟨b22, 0, none⟩)), (64, .bool ((((c80 || ((x14.Period != 0)))) || ((x14.RiseAt != 0)))))] (fun w' => Ext w94 w') ?_ ?_
                  · rcases Bool.eq_false_or_eq_true ((c80 || ((x14.Period != 0)))) with hg98 | hg98
                    ·
                      refine TL.gnu (j := 17) (t := 60) rfl rfl rfl hg98 rfl ?_
                      refine TL.gnu (j := 17) (t := 60) rfl rfl rfl hg98 rfl ?_
                      refine TL.gnu (j := 17) (t := 60) rfl rfl rfl hg98 rfl ?_
                      refine TL.yld rfl rfl (yld_or_t (b2 := (x14.RiseAt != 0)) rfl rfl hg98 rfl) ?_
                      exact TL.nil fun a h => ⟨h.weaken ⟨rfl, rfl, rfl, rfl, trivial⟩, Ext.refl _⟩
                    ·
                      refine TL.gy (j := 17) (t := 60) rfl rfl rfl hg98 rfl (yld_fieldAddr rfl fo_45_3 rfl) ?_
                      refine TL.gy (j := 17) (t := 60) rfl rfl rfl hg98 rfl (yld_load1 3 rfl ag_2 rfl (Box.cells hb45) rfl rfl) ?_
                      refine TL.gy (j := 17) (t := 60) rfl rfl rfl hg98 rfl (yld_neq rfl rfl rfl) ?_
                      refine TL.yld rfl rfl (yld_or_f rfl rfl hg98 rfl) ?_
                      exact TL.nil fun a h => ⟨h.weaken ⟨rfl, rfl, rfl, rfl, trivial⟩, Ext.refl _⟩
                  intro w99 hx100
                  have he101 : Ext w w99 := Ext.trans he96 hx100
                  have hb45 := Box.ext hb45 hx100
                  have hz102 := (hx100).size
                  refine TL.yld rfl rfl (yld_move rfl rfl) ?_
                  refine TL.cut 4 [(0, v1), (3, .int .i64 i5), (69, .bool ((((((c80 || ((x14.Period != 0)))) || ((x14.RiseAt != 0)))) || ((x14.FallAt != 0)))))] (fun w' => Ext w99 w') ?_ ?_
                  · rcases Bool.eq_false_or_eq_true ((((c80 || ((x14.Period != 0)))) || ((x14.RiseAt != 0)))) with hg103 | hg103
                    ·
                      refine TL.gnu (j := 22) (t := 65) rfl rfl rfl hg103 rfl ?_
                      refine TL.gnu (j := 22) (t := 65) rfl rfl rfl hg103 rfl ?_
                      refine TL.gnu (j := 22) (t := 65) rfl rfl rfl hg103 rfl ?_
                      refine TL.yld rfl rfl (yld_or_t (b2 := (x14.FallAt != 0)) rfl rfl hg103 rfl) ?_
                      exact TL.nil fun a h => ⟨h.weaken ⟨rfl, rfl, rfl, trivial⟩, Ext.refl _⟩
                    ·
                      refine TL.gy (j := 22) (t := 65) rfl rfl rfl hg103 rfl (yld_fieldAddr rfl fo_45_4 rfl) ?_
                      refine TL.gy (j := 22) (t := 65) rfl rfl rfl hg103 rfl (yld_load1 4 rfl ag_2 rfl (Box.cells hb45) rfl rfl) ?_
                      refine TL.gy (j := 22) (t := 65) rfl rfl rfl hg103 rfl (yld_neq rfl rfl rfl) ?_
                      refine TL.yld rfl rfl (yld_or_f rfl rfl hg103 rfl) ?_
                      exact TL.nil fun a h => ⟨h.weaken ⟨rfl, rfl, rfl, trivial⟩, Ext.refl _⟩
                  intro w104 hx105
                  have he106 : Ext w w104 := Ext.trans he101 hx105
                  have hb45 := Box.ext hb45 hx105
                  have hz107 := (hx105).size
                  refine TL.yld rfl rfl (yld_move rfl rfl) ?_
                  obtain ⟨c108, hb109, hF⟩ := bsome hF
                  refine TL.cut 6 [(0, v1), (3, .int .i64 i5), (76, .bool c108)] (fun w' => Ext w104 w') ?_ ?_
                  · rcases Bool.eq_false_or_eq_true ((((((c80 || ((x14.Period != 0)))) || ((x14.RiseAt != 0)))) || ((x14.FallAt != 0)))) with hg110 | hg110
                    ·
                      rw [hg110] at hb109; simp only [cond_true, cond_false] at hb109
                      refine TL.gnu (j := 27) (t := 70) rfl rfl rfl hg110 rfl ?_
                      refine TL.gnu (j := 27) (t := 70) rfl rfl rfl hg110 rfl ?_
                      refine TL.gnu (j := 27) (t := 70) rfl rfl rfl hg110 rfl ?_
                      refine TL.gnu (j := 27) (t := 70) rfl rfl rfl hg110 rfl ?_
                      refine TL.gnu (j := 27) (t := 70) rfl rfl rfl hg110 rfl ?_
                      obtain rfl := Option.some.inj hb109
                      refine TL.yld rfl rfl (yld_pick_t rfl rfl hg110 rfl) ?_
                      exact TL.nil fun a h => ⟨h.weaken ⟨rfl, rfl, rfl, trivial⟩, Ext.refl _⟩
                    ·
                      rw [hg110] at hb109; simp only [cond_true, cond_false] at hb109
                      replace hF := hb109
                      refine TL.gy (j := 27) (t := 70) rfl rfl rfl hg110 rfl (yld_move rfl rfl) ?_
                      refine TL.gy (j := 27) (t := 70) rfl rfl rfl hg110 rfl (yld_move rfl rfl) ?_
                      obtain ⟨r111, hr112, hF⟩ := bsome hF
                      refine TL.ge (j := 27) (t := 70) rfl rfl rfl hg110 rfl (eff_call rfl gf_48 rfl (W_spec_l14Of hr112 ((slRep.old ha2 he106 (Nat.le_refl _)).wide (Nat.le_refl _) (he106).size))) ?_
                      rintro _ w113 ⟨rfl, hx114⟩
                      have he115 : Ext w w113 := Ext.trans he106 hx114
                      have hb45 := Box.ext hb45 hx114
                      have hz116 := (hx114).size
                      refine TL.gy (j := 27) (t := 70) rfl rfl rfl hg110 rfl (yld_field1 rfl ft_60_0 ag_2 rfl rfl) ?_
                      refine TL.gy (j := 27) (t := 70) rfl rfl rfl hg110 rfl (yld_gtr rfl rfl rfl) ?_
                      obtain rfl := Option.some.inj hF
                      refine TL.yld rfl rfl (yld_pick_f rfl rfl hg110 rfl) ?_
                      exact TL.nil fun a h => ⟨h.weaken ⟨rfl, rfl, rfl, trivial⟩, hx114⟩
                  intro w117 hx118
                  have he119 : Ext w w117 := Ext.trans he106 hx118
                  have hb45 := Box.ext hb45 hx118
                  have hz120 := (hx118).size
                  refine TL.done ?_
                  refine NX.seq ?_
                  refine WC.cond rfl ?_ ?_
                  · intro hc121
                    replace hF := bif_t hc121 hF
                    refine WC.seq ?_
                    refine WC.region ?_
                    refine TL.yld rfl rfl (yld_assign rfl rfl) ?_
                    refine TL.done ?_
                    refine NX.seq ?_
                    refine WC.ret' ?_
                    refine NX.blk_r ?_
                    refine NX.then_r ?_
                    refine NX.then_r ?_
                    refine NX.blk_r ?_
                    refine NX.then_r ?_
                    obtain rfl := Option.some.inj hF
                    exact NX.end (rs := [.tmp 2]) (vs := [.bool false]) rfl ⟨rfl, trivial⟩ ⟨_, rfl, rfl, he119⟩
                  · intro hc122
                    replace hF := bif_f hc122 hF
                    refine WC.skip' ?_
                    refine NX.blk_n ?_
                    refine NX.seq ?_
                    refine WC.region ?_
                    refine TL.yld rfl rfl (yld_move rfl rfl) ?_
                    refine TL.yld rfl rfl (yld_add rfl rfl rfl) ?_
                    refine TL.yld rfl rfl (yld_assign rfl rfl) ?_
                    refine TL.done ?_
                    refine NX.then_n ?_
                    intro a hK; exact ⟨m6, Nat.lt_succ_self m6, (IntKind.wrap IntKind.i64 (i5 + 1)), hK.weaken ⟨rfl, rfl, trivial⟩, he119, (by omega), hF⟩
      · intro hc123
        replace hF := bif_f hc123 hF
        refine WC.exit' ?_
        refine NX.then_e ?_
        refine NX.then_e ?_
        refine NX.blk_hit ?_
        refine NX.seq ?_
        refine WC.seq ?_
        refine WC.region ?_
        refine TL.yld rfl rfl (yld_move rfl rfl) ?_
        refine TL.yld rfl rfl (ye_len (c := C_Clock) rfl Tryd.underlying25 rfl (slRep.old ha2 he11 (Nat.le_refl _))) ?_
        refine TL.yld rfl rfl (yld_leq rfl rfl rfl) ?_
        refine TL.yld rfl rfl (yld_assign rfl rfl) ?_
        refine TL.done ?_
        refine NX.seq ?_
        refine WC.ret' ?_
        obtain rfl := Option.some.inj hF
        exact NX.end (rs := [.tmp 2]) (vs := [.bool (decide ((a0_list.length : Int) ≤ 6))]) rfl ⟨rfl, trivial⟩ ⟨_, rfl, rfl, he11⟩

-- loop.example/g00861/spec.l14Code
def F_spec_l14Code (n : Nat) (a0_list : List S_Clock) (a1_k : Int) : Option Int := (Option.bind (F_spec_IsClocks n a0_list) fun r3 => (bif (!r3) then (some 1) else (Option.bind (F_spec_l01In n a1_k 0 (IntKind.wrap IntKind.i64 (((a0_list.length : Int)) - 1))) fun r11 => (bif (!r11) then (some 4) else (some 0)))))
set_option maxHeartbeats 40000000 in
theorem W_spec_l14Code {n : Nat} {a0_list : List S_Clock} {a1_k : Int} {r : Int} {w : World} {v1 : Value} (hF : F_spec_l14Code n a0_list a1_k = some r) (ha2 : slRep C_Clock w (Iv 0 w.heap.size) a0_list v1) :
    Calls Tryd.prog 53 [v1, .int .i64 a1_k].toArray w (Ret fun u w2 => u = .int .i64 r ∧ Ext w w2) := by
  refine calls_of Tryd.func53 rfl Tryd.ntmps53 ?_
  have he0 : Ext w w := Ext.refl w
  unfold F_spec_l14Code at hF
  refine WC.seq ?_
  refine WC.region ?_
  refine TL.yld rfl rfl (yld_assign rfl rfl) ?_
  refine TL.done ?_
  refine NX.seq ?_
  refine WC.seq ?_
  refine WC.seq ?_
  refine WC.region ?_
  refine TL.yld rfl rfl (yld_move rfl rfl) ?_
  obtain ⟨r3, hr4, hF⟩ := bsome hF
  refine TL.eff rfl rfl (eff_call rfl gf_16 rfl (W_spec_IsClocks hr4 ((slRep.old ha2 he0 (Nat.le_refl _)).wide (Nat.le_refl _) (he0).size))) ?_
  rintro _ w5 ⟨rfl, hx6⟩
  have he7 : Ext w w5 := Ext.trans he0 hx6
  have hz8 := (hx6).size
  refine TL.yld rfl rfl (yld_not rfl rfl) ?_
  refine TL.done ?_
  refine NX.seq ?_
  refine WC.cond rfl ?_ ?_
  · intro hc9
    replace hF := bif_t hc9 hF
    refine WC.seq ?_
    refine WC.region ?_
    refine TL.yld rfl rfl (yld_assign rfl rfl) ?_
    refine TL.done ?_
    refine NX.seq ?_
    refine WC.ret' ?_
    refine NX.then_r ?_
    obtain rfl := Option.some.inj hF
    exact NX.end (rs := [.tmp 4]) (vs := [.int .i64 1]) rfl ⟨rfl, trivial⟩ ⟨_, rfl, rfl, he7⟩
  · intro hc10
    replace hF := bif_f hc10 hF
    refine WC.skip' ?_
    refine NX.seq ?_
    refine WC.seq ?_
    refine WC.seq ?_
    refine WC.region ?_
    refine TL.yld rfl rfl (yld_move rfl rfl) ?_
    refine TL.yld rfl rfl (yld_move rfl rfl) ?_
    refine TL.yld rfl rfl (ye_len (c := C_Clock) rfl Tryd.underlying25 rfl (slRep.old ha2 he7 (Nat.le_refl _))) ?_
    refine TL.yld rfl rfl (yld_sub rfl rfl rfl) ?_
    obtain ⟨r11, hr12, hF⟩ := bsome hF
    refine TL.eff rfl rfl (eff_call rfl gf_47 rfl (W_spec_l01In hr12)) ?_
    rintro _ w13 ⟨rfl, hx14⟩
    have he15 : Ext w w13 := Ext.trans he7 hx14
    have hz16 := (hx14).size
    refine TL.yld rfl rfl (yld_not rfl rfl) ?_
    refine TL.done ?_
    refine NX.seq ?_
    refine WC.cond rfl ?_ ?_
    · intro hc17
      replace hF := bif_t hc17 hF
      refine WC.seq ?_
      refine WC.region ?_
      refine TL.yld rfl rfl (yld_assign rfl rfl) ?_
      refine TL.done ?_
      refine NX.seq ?_
      refine WC.ret' ?_
      refine NX.then_r ?_
      obtain rfl := Option.some.inj hF
      exact NX.end (rs := [.tmp 4]) (vs := [.int .i64 4]) rfl ⟨rfl, trivial⟩ ⟨_, rfl, rfl, he15⟩
    · intro hc18
      replace hF := bif_f hc18 hF
      refine WC.skip' ?_
      refine NX.seq ?_
      refine WC.seq ?_
      refine WC.region ?_
      refine TL.yld rfl rfl (yld_assign rfl rfl) ?_
      refine TL.done ?_
      refine NX.seq ?_
      refine WC.ret' ?_
      obtain rfl := Option.some.inj hF
      exact NX.end (rs := [.tmp 4]) (vs := [.int .i64 0]) rfl ⟨rfl, trivial⟩ ⟨_, rfl, rfl, he15⟩

-- loop.example/g00861/spec.WaveOf
def F_spec_WaveOf (n : Nat) (a0_list : List S_Clock) (a1_k : Int) : Option (Int × Int × Int × Int) := (Option.bind (F_spec_l14Code n a0_list a1_k) fun r3 => (bif (r3 != 0) then (some (0, 0, 0, r3)) else (Option.bind (F_spec_l14Of n a0_list a1_k) fun r11 => (some (r11.period_, r11.rise_, r11.fall_, 0)))))
set_option maxHeartbeats 40000000 in
theorem W_spec_WaveOf {n : Nat} {a0_list : List S_Clock} {a1_k : Int} {r : Int × Int × Int × Int} {w : World} {v1 : Value} (hF : F_spec_WaveOf n a0_list a1_k = some r) (ha2 : slRep C_Clock w (Iv 0 w.heap.size) a0_list v1) :
    Calls Tryd.prog 20 [v1, .int .i64 a1_k].toArray w (Ret fun u w2 => u = .tuple #[.int .i64 r.1, .int .i64 r.2.1, .int .i64 r.2.2.1, .int .i64 r.2.2.2] ∧ Ext w w2) := by
  refine calls_of Tryd.func20 rfl Tryd.ntmps20 ?_
  have he0 : Ext w w := Ext.refl w
  unfold F_spec_WaveOf at hF
  refine WC.seq ?_
  refine WC.region ?_
  refine TL.yld rfl rfl (yld_assign rfl rfl) ?_
  refine TL.yld rfl rfl (yld_assign rfl rfl) ?_
  refine TL.yld rfl rfl (yld_assign rfl rfl) ?_
  refine TL.yld rfl rfl (yld_assign rfl rfl) ?_
  refine TL.done ?_
  refine NX.seq ?_
  refine WC.seq ?_
  refine WC.seq ?_
  refine WC.region ?_
  refine TL.yld rfl rfl (yld_move rfl rfl) ?_
  refine TL.yld rfl rfl (yld_move rfl rfl) ?_
  obtain ⟨r3, hr4, hF⟩ := bsome hF
  refine TL.eff rfl rfl (eff_call rfl gf_53 rfl (W_spec_l14Code hr4 ((slRep.old ha2 he0 (Nat.le_refl _)).wide (Nat.le_refl _) (he0).size))) ?_
  rintro _ w5 ⟨rfl, hx6⟩
  have he7 : Ext w w5 := Ext.trans he0 hx6
  have hz8 := (hx6).size
  refine TL.yld rfl rfl (yld_assign rfl rfl) ?_
  refine TL.done ?_
  refine NX.seq ?_
  refine WC.seq ?_
  refine WC.region ?_
  refine TL.yld rfl rfl (yld_move rfl rfl) ?_
  refine TL.yld rfl rfl (yld_neq rfl rfl rfl) ?_
  refine TL.done ?_
  refine NX.seq ?_
  refine WC.cond rfl ?_ ?_
  · intro hc9
    replace hF := bif_t hc9 hF
    refine WC.seq ?_
    refine WC.region ?_
    refine TL.yld rfl rfl (yld_move rfl rfl) ?_
    refine TL.yld rfl rfl (yld_assign rfl rfl) ?_
    refine TL.yld rfl rfl (yld_assign rfl rfl) ?_
    refine TL.yld rfl rfl (yld_assign rfl rfl) ?_
    refine TL.yld rfl rfl (yld_assign rfl rfl) ?_
    refine TL.done ?_
    refine NX.seq ?_
    refine WC.ret' ?_
    refine NX.then_r ?_
    obtain rfl := Option.some.inj hF
    exact NX.end (rs := [.tmp 4, .tmp 5, .tmp 6, .tmp 7]) (vs := [.int .i64 0, .int .i64 0, .int .i64 0, .int .i64 r3]) rfl ⟨rfl, rfl, rfl, rfl, trivial⟩ ⟨_, rfl, rfl, he7⟩
  · intro hc10
    replace hF := bif_f hc10 hF
    refine WC.skip' ?_
    refine NX.seq ?_
    refine WC.seq ?_
    refine WC.region ?_
    refine TL.yld rfl rfl (yld_move rfl rfl) ?_
    refine TL.yld rfl rfl (yld_move rfl rfl) ?_
    obtain ⟨r11, hr12, hF⟩ := bsome hF
    refine TL.eff rfl rfl (eff_call rfl gf_48 rfl (W_spec_l14Of hr12 ((slRep.old ha2 he7 (Nat.le_refl _)).wide (Nat.le_refl _) (he7).size))) ?_
    rintro _ w13 ⟨rfl, hx14⟩
    have he15 : Ext w w13 := Ext.trans he7 hx14
    have hz16 := (hx14).size
    refine TL.eff rfl rfl (eff_alloc rfl zn_60) ?_
    rintro _ w18 ⟨b17, rfl, hn19⟩
    obtain ⟨hn19e, hn19s, hn19x, hb20⟩ := hn19
    have hb20 : Box w18 b17 [.int .i64 0, .int .i64 0, .int .i64 0] 60 := hb20
    have he22 : Ext w w18 := Ext.trans he15 hn19x
    have hz23 := (hn19x).size
    have hlo21 : w.heap.size ≤ b17 := by rw [hn19e]; exact (he15).size
    refine TL.eff rfl rfl (eff_store rfl rfl rfl hb20 cn_60 rfl rfl) ?_
    rintro _ w24 ⟨hu25, hb26⟩
    have he27 : Ext w w24 := Below.trans he22 (Upd.below hu25 (by omega))
    have hz28 := (hu25).size
    have hb20 : Box w24 b17 [.int .i64 r11.period_, .int .i64 r11.rise_, .int .i64 r11.fall_] 60 := hb26
    refine TL.done ?_
    refine NX.seq ?_
    refine WC.seq ?_
    refine WC.quiet Tryd.hm (by kernel_rfl) ?_
    refine QL.yld rfl rfl (Yld.qui (yld_fieldAddr rfl fo_60_0 rfl)) ?_
    refine QL.yld rfl rfl (Yld.qui (yld_load1 0 rfl ag_2 rfl (Box.cells hb20) rfl rfl)) ?_
    refine QL.yld rfl rfl (Yld.qui (yld_fieldAddr rfl fo_60_1 rfl)) ?_
    refine QL.yld rfl rfl (Yld.qui (yld_load1 1 rfl ag_2 rfl (Box.cells hb20) rfl rfl)) ?_
    refine QL.yld rfl rfl (Yld.qui (yld_fieldAddr rfl fo_60_2 rfl)) ?_
    refine QL.yld rfl rfl (Yld.qui (yld_load1 2 rfl ag_2 rfl (Box.cells hb20) rfl rfl)) ?_
    refine QL.yld rfl rfl (Yld.qui (yld_assign rfl rfl)) ?_
    refine QL.yld rfl rfl (Yld.qui (yld_assign rfl rfl)) ?_
    refine QL.yld rfl rfl (Yld.qui (yld_assign rfl rfl)) ?_
    refine QL.yld rfl rfl (Yld.qui (yld_assign rfl rfl)) ?_
    refine QL.done fun w29 hx30 => ?_
    have he31 : Ext w w29 := Ext.trans he27 hx30
    have hb20 := Box.ext hb20 hx30
    have hz32 := (hx30).size
    refine NX.seq ?_
    refine WC.ret' ?_
    obtain rfl := Option.some.inj hF
    exact NX.end (rs := [.tmp 4, .tmp 5, .tmp 6, .tmp 7]) (vs := [.int .i64 r11.period_, .int .i64 r11.rise_, .int .i64 r11.fall_, .int .i64 0]) rfl ⟨rfl, rfl, rfl, rfl, trivial⟩ ⟨_, rfl, rfl, he31⟩

-- loop.example/g00861/impl.waveOf
def F_impl_waveOf : Nat → (List S_Clock) → Int → Option S_wave
  | 0 => fun _ _ => none
  | n + 1 => fun a0_list a1_k => (Option.bind (getI a0_list a1_k) fun x10 => (bif decide (x10.Source < 0) then (some ((S_wave.mk x10.Period ((A2_Int.mk x10.RiseAt x10.FallAt))))) else (Option.bind (F_impl_waveOf n a0_list x10.Source) fun r37 => (bif decide (x10.Divide > 1) then (bif x10.Invert then (some ((S_wave.mk (IntKind.wrap IntKind.i64 (x10.Divide * r37.period_)) ((A2_Int.mk (IntKind.wrap IntKind.i64 (r37.edges_.e0 + (IntKind.wrap IntKind.i64 ((IntKind.wrap IntKind.i64 (Int.tdiv x10.Divide 2)) * r37.period_)))) r37.edges_.e0))))) else (some ((S_wave.mk (IntKind.wrap IntKind.i64 (x10.Divide * r37.period_)) ((A2_Int.mk r37.edges_.e0 (IntKind.wrap IntKind.i64 (r37.edges_.e0 + (IntKind.wrap IntKind.i64 ((IntKind.wrap IntKind.i64 (Int.tdiv x10.Divide 2)) * r37.period_)))))))))) else (bif x10.Invert then (some ((S_wave.mk r37.period_ ((A2_Int.mk r37.edges_.e1 r37.edges_.e0))))) else (some r37))))))
theorem F_impl_waveOf_z (a0_list : List S_Clock) (a1_k : Int) : F_impl_waveOf 0 a0_list a1_k = none := rfl
theorem F_impl_waveOf_s (n : Nat) (a0_list : List S_Clock) (a1_k : Int) : F_impl_waveOf (n + 1) a0_list a1_k = (Option.bind (getI a0_list a1_k) fun x10 => (bif decide (x10.Source < 0) then (some ((S_wave.mk x10.Period ((A2_Int.mk x10.RiseAt x10.FallAt))))) else (Option.bind (F_impl_waveOf n a0_list x10.Source) fun r37 => (bif decide (x10.Divide > 1) then (bif x10.Invert then (some ((S_wave.mk (IntKind.wrap IntKind.i64 (x10.Divide * r37.period_)) ((A2_Int.mk (IntKind.wrap IntKind.i64 (r37.edges_.e0 + (IntKind.wrap IntKind.i64 ((IntKind.wrap IntKind.i64 (Int.tdiv x10.Divide 2)) * r37.period_)))) r37.edges_.e0))))) else (some ((S_wave.mk (IntKind.wrap IntKind.i64 (x10.Divide * r37.period_)) ((A2_Int.mk r37.edges_.e0 (IntKind.wrap IntKind.i64 (r37.edges_.e0 + (IntKind.wrap IntKind.i64 ((IntKind.wrap IntKind.i64 (Int.tdiv x10.Divide 2)) * r37.period_)))))))))) else (bif x10.Invert then (some ((S_wave.mk r37.period_ ((A2_Int.mk r37.edges_.e1 r37.edges_.e0))))) else (some r37)))))) := rfl
set_option maxHeartbeats 40000000 in
theorem W_impl_waveOf {n : Nat} {a0_list : List S_Clock} {a1_k : Int} {r : S_wave} {w : World} {v1 : Value} (hF : F_impl_waveOf n a0_list a1_k = some r) (ha2 : slRep C_Clock w (Iv 0 w.heap.size) a0_list v1) :
    Calls Tryd.prog 55 [v1, .int .i64 a1_k].toArray w (Ret fun u w2 => u = .agg #[.int .i64 r.period_, .int .i64 r.edges_.e0, .int .i64 r.edges_.e1] ∧ Ext w w2) := by
  cases n with
  | zero => rw [F_impl_waveOf_z] at hF; cases hF
  | succ n =>
    refine calls_of Tryd.func55 rfl Tryd.ntmps55 ?_
    have he0 : Ext w w := Ext.refl w
    rw [F_impl_waveOf_s] at hF
    refine WC.seq ?_
    refine WC.region ?_
    refine TL.eff rfl rfl (eff_alloc rfl zn_71) ?_
    rintro _ w4 ⟨b3, rfl, hn5⟩
    obtain ⟨hn5e, hn5s, hn5x, hb6⟩ := hn5
    have hb6 : Box w4 b3 [.int .i64 0, .int .i64 0, .int .i64 0] 71 := hb6
    have he8 : Ext w w4 := Ext.trans he0 hn5x
    have hz9 := (hn5x).size
    have hlo7 : w.heap.size ≤ b3 := by rw [hn5e]; exact (he0).size
    refine TL.done ?_
    refine NX.seq ?_
    refine WC.seq ?_
    refine WC.region ?_
    refine TL.yld rfl rfl (yld_move rfl rfl) ?_
    refine TL.yld rfl rfl (yld_move rfl rfl) ?_
    obtain ⟨x10, hy11, hF⟩ := bsome hF
    refine TL.ye rfl rfl (ye_index (c := C_Clock) rfl Tryd.underlying25 cn_45 rfl rfl (slRep.old ha2 he8 (Nat.le_refl _)) hy11) ?_
    rintro _ ⟨b12, o13, us14, rfl, hib17, hr15, hcl16⟩
    have hib17 : 0 ≤ b12 ∧ b12 < w.heap.size := ⟨hib17.1, by have := hib17.2; omega⟩
    obtain rfl := C_Clock_open hr15
    refine TL.yld rfl rfl (yld_loadN (us := [.string x10.Name, .int .i64 x10.Place, .int .i64 x10.Period, .int .i64 x10.RiseAt, .int .i64 x10.FallAt, .int .i64 x10.Source, .int .i64 x10.Divide, .bool x10.Invert, .int .i64 x10.EarlyLatency, .int .i64 x10.LateLatency, .int .i64 x10.Uncertainty]) rfl ag_45 rfl hcl16 cn_45) ?_
    refine TL.eff rfl rfl (eff_alloc rfl zn_45) ?_
    rintro _ w19 ⟨b18, rfl, hn20⟩
    obtain ⟨hn20e, hn20s, hn20x, hb21⟩ := hn20
    have hb21 : Box w19 b18 [.string ByteArray.empty, .int .i64 0, .int .i64 0, .int .i64 0, .int .i64 0, .int .i64 0, .int .i64 0, .bool false, .int .i64 0, .int .i64 0, .int .i64 0] 45 := hb21
    have he23 : Ext w w19 := Ext.trans he8 hn20x
    have hb6 := Box.ext hb6 hn20x
    have hz24 := (hn20x).size
    have hlo22 : w.heap.size ≤ b18 := by rw [hn20e]; exact (he8).size
    refine TL.eff rfl rfl (eff_store rfl rfl rfl hb21 cn_45 rfl rfl) ?_
    rintro _ w25 ⟨hu26, hb27⟩
    have he28 : Ext w w25 := Below.trans he23 (Upd.below hu26 (by omega))
    have hb6 := Box.upd hb6 hu26 (by omega)
    have hz29 := (hu26).size
    have hb21 : Box w25 b18 [.string x10.Name, .int .i64 x10.Place, .int .i64 x10.Period, .int .i64 x10.RiseAt, .int .i64 x10.FallAt, .int .i64 x10.Source, .int .i64 x10.Divide, .bool x10.Invert, .int .i64 x10.EarlyLatency, .int .i64 x10.LateLatency, .int .i64 x10.Uncertainty] 45 := hb27
    refine TL.done ?_
    refine NX.seq ?_
    refine WC.seq ?_
    refine WC.seq ?_
    refine WC.region ?_
    refine TL.yld rfl rfl (yld_fieldAddr rfl fo_45_5 rfl) ?_
    refine TL.yld rfl rfl (yld_load1 5 rfl ag_2 rfl (Box.cells hb21) rfl rfl) ?_
    refine TL.yld rfl rfl (yld_lss rfl rfl rfl) ?_
    refine TL.done ?_
    refine NX.seq ?_
    refine WC.cond rfl ?_ ?_
    · intro hc30
      replace hF := bif_t hc30 hF
      refine WC.seq ?_
      refine WC.region ?_
      refine TL.yld rfl rfl (yld_fieldAddr rfl fo_45_2 rfl) ?_
      refine TL.yld rfl rfl (yld_load1 2 rfl ag_2 rfl (Box.cells hb21) rfl rfl) ?_
      refine TL.yld rfl rfl (yld_fieldAddr rfl fo_45_3 rfl) ?_
      refine TL.yld rfl rfl (yld_load1 3 rfl ag_2 rfl (Box.cells hb21) rfl rfl) ?_
      refine TL.yld rfl rfl (yld_fieldAddr rfl fo_45_4 rfl) ?_
      refine TL.yld rfl rfl (yld_load1 4 rfl ag_2 rfl (Box.cells hb21) rfl rfl) ?_
      refine TL.yld rfl rfl (yld_build (uss := [(0, [.int .i64 x10.RiseAt]), (1, [.int .i64 x10.FallAt])]) (out := [.int .i64 x10.RiseAt, .int .i64 x10.FallAt]) rfl rfl zn_69 pl_69 rfl rfl) ?_
      refine TL.yld rfl rfl (yld_build (uss := [(0, [.int .i64 x10.Period]), (1, [.int .i64 x10.RiseAt, .int .i64 x10.FallAt])]) (out := [.int .i64 x10.Period, .int .i64 x10.RiseAt, .int .i64 x10.FallAt]) rfl rfl zn_71 pl_71 rfl rfl) ?_
      refine TL.eff rfl rfl (eff_store rfl rfl rfl hb6 cn_71 rfl rfl) ?_
      rintro _ w31 ⟨hu32, hb33⟩
      have he34 : Ext w w31 := Below.trans he28 (Upd.below hu32 (by omega))
      have hb21 := Box.upd hb21 hu32 (by omega)
      have hz35 := (hu32).size
      have hb6 : Box w31 b3 [.int .i64 x10.Period, .int .i64 x10.RiseAt, .int .i64 x10.FallAt] 71 := hb33
      refine TL.done ?_
      refine NX.seq ?_
      refine WC.ret' ?_
      refine NX.then_r ?_
      obtain rfl := Option.some.inj hF
      exact NX.end (rs := [.cell 4 71]) (vs := [.agg #[.int .i64 x10.Period, .int .i64 x10.RiseAt, .int .i64 x10.FallAt]]) rfl ⟨⟨b3, rfl, box_load ag_71 cn_71 hb6⟩, trivial⟩ ⟨_, rfl, rfl, he34⟩
    · intro hc36
      replace hF := bif_f hc36 hF
      refine WC.skip' ?_
      refine NX.seq ?_
      refine WC.seq ?_
      refine WC.region ?_
      refine TL.yld rfl rfl (yld_move rfl rfl) ?_
      refine TL.yld rfl rfl (yld_fieldAddr rfl fo_45_5 rfl) ?_
      refine TL.yld rfl rfl (yld_load1 5 rfl ag_2 rfl (Box.cells hb21) rfl rfl) ?_
      obtain ⟨r37, hr38, hF⟩ := bsome hF
      refine TL.eff rfl rfl (eff_call rfl gf_55 rfl (W_impl_waveOf hr38 ((slRep.old ha2 he28 (Nat.le_refl _)).wide (Nat.le_refl _) (he28).size))) ?_
      rintro _ w39 ⟨rfl, hx40⟩
      have he41 : Ext w w39 := Ext.trans he28 hx40
      have hb6 := Box.ext hb6 hx40
      have hb21 := Box.ext hb21 hx40
      have hz42 := (hx40).size
      refine TL.eff rfl rfl (eff_alloc rfl zn_71) ?_
      rintro _ w44 ⟨b43, rfl, hn45⟩
      obtain ⟨hn45e, hn45s, hn45x, hb46⟩ := hn45
      have hb46 : Box w44 b43 [.int .i64 0, .int .i64 0, .int .i64 0] 71 := hb46
      have he48 : Ext w w44 := Ext.trans he41 hn45x
      have hb6 := Box.ext hb6 hn45x
      have hb21 := Box.ext hb21 hn45x
      have hz49 := (hn45x).size
      have hlo47 : w.heap.size ≤ b43 := by rw [hn45e]; exact (he41).size
      refine TL.eff rfl rfl (eff_store rfl rfl rfl hb46 cn_71 rfl rfl) ?_
      rintro _ w50 ⟨hu51, hb52⟩
      have he53 : Ext w w50 := Below.trans he48 (Upd.below hu51 (by omega))
      have hb6 := Box.upd hb6 hu51 (by omega)
      have hb21 := Box.upd hb21 hu51 (by omega)
      have hz54 := (hu51).size
      have hb46 : Box w50 b43 [.int .i64 r37.period_, .int .i64 r37.edges_.e0, .int .i64 r37.edges_.e1] 71 := hb52
      refine TL.done ?_
      refine NX.seq ?_
      refine WC.seq ?_
      refine WC.seq ?_
      refine WC.region ?_
      refine TL.yld rfl rfl (yld_fieldAddr rfl fo_45_6 rfl) ?_
      refine TL.yld rfl rfl (yld_load1 6 rfl ag_2 rfl (Box.cells hb21) rfl rfl) ?_
      refine TL.yld rfl rfl (yld_gtr rfl rfl rfl) ?_
      refine TL.done ?_
      refine NX.seq ?_
      refine WC.cond rfl ?_ ?_
      · intro hc55
        replace hF := bif_t hc55 hF
        refine WC.seq ?_
        refine WC.region ?_
        refine TL.yld rfl rfl (yld_fieldAddr rfl fo_71_1 rfl) ?_
        refine TL.yld rfl rfl (yld_indexArr rfl Tryd.underlying69 cn_2 rfl rfl (by decide)) ?_
        refine TL.yld rfl rfl (yld_load1 1 rfl ag_2 rfl (Box.cells hb46) rfl rfl) ?_
        refine TL.yld rfl rfl (yld_assign rfl rfl) ?_
        refine TL.done ?_
        refine NX.seq ?_
        refine WC.region ?_
        refine TL.yld rfl rfl (yld_fieldAddr rfl fo_45_6 rfl) ?_
        refine TL.yld rfl rfl (yld_load1 6 rfl ag_2 rfl (Box.cells hb21) rfl rfl) ?_
        refine TL.yld rfl rfl (yld_fieldAddr rfl fo_71_0 rfl) ?_
        refine TL.yld rfl rfl (yld_load1 0 rfl ag_2 rfl (Box.cells hb46) rfl rfl) ?_
        refine TL.yld rfl rfl (yld_mul rfl rfl rfl) ?_
        refine TL.yld rfl rfl (yld_move rfl rfl) ?_
        refine TL.yld rfl rfl (yld_move rfl rfl) ?_
        refine TL.yld rfl rfl (yld_fieldAddr rfl fo_45_6 rfl) ?_
        refine TL.yld rfl rfl (yld_load1 6 rfl ag_2 rfl (Box.cells hb21) rfl rfl) ?_
        refine TL.yld rfl rfl (yld_quo rfl rfl rfl (by decide)) ?_
        refine TL.yld rfl rfl (yld_fieldAddr rfl fo_71_0 rfl) ?_
        refine TL.yld rfl rfl (yld_load1 0 rfl ag_2 rfl (Box.cells hb46) rfl rfl) ?_
        refine TL.yld rfl rfl (yld_mul rfl rfl rfl) ?_
        refine TL.yld rfl rfl (yld_add rfl rfl rfl) ?_
        refine TL.yld rfl rfl (yld_build (uss := [(0, [.int .i64 r37.edges_.e0]), (1, [.int .i64 (IntKind.wrap IntKind.i64 (r37.edges_.e0 + (IntKind.wrap IntKind.i64 ((IntKind.wrap IntKind.i64 (Int.tdiv x10.Divide 2)) * r37.period_))))])]) (out := [.int .i64 r37.edges_.e0, .int .i64 (IntKind.wrap IntKind.i64 (r37.edges_.e0 + (IntKind.wrap IntKind.i64 ((IntKind.wrap IntKind.i64 (Int.tdiv x10.Divide 2)) * r37.period_))))]) rfl rfl zn_69 pl_69 rfl rfl) ?_
        refine TL.yld rfl rfl (yld_build (uss := [(0, [.int .i64 (IntKind.wrap IntKind.i64 (x10.Divide * r37.period_))]), (1, [.int .i64 r37.edges_.e0, .int .i64 (IntKind.wrap IntKind.i64 (r37.edges_.e0 + (IntKind.wrap IntKind.i64 ((IntKind.wrap IntKind.i64 (Int.tdiv x10.Divide 2)) * r37.period_))))])]) (out := [.int .i64 (IntKind.wrap IntKind.i64 (x10.Divide * r37.period_)), .int .i64 r37.edges_.e0, .int .i64 (IntKind.wrap IntKind.i64 (r37.edges_.e0 + (IntKind.wrap IntKind.i64 ((IntKind.wrap IntKind.i64 (Int.tdiv x10.Divide 2)) * r37.period_))))]) rfl rfl zn_71 pl_71 rfl rfl) ?_
        refine TL.eff rfl rfl (eff_store rfl rfl rfl hb46 cn_71 rfl rfl) ?_
        rintro _ w56 ⟨hu57, hb58⟩
        have he59 : Ext w w56 := Below.trans he53 (Upd.below hu57 (by omega))
        have hb6 := Box.upd hb6 hu57 (by omega)
        have hb21 := Box.upd hb21 hu57 (by omega)
        have hz60 := (hu57).size
        have hb46 : Box w56 b43 [.int .i64 (IntKind.wrap IntKind.i64 (x10.Divide * r37.period_)), .int .i64 r37.edges_.e0, .int .i64 (IntKind.wrap IntKind.i64 (r37.edges_.e0 + (IntKind.wrap IntKind.i64 ((IntKind.wrap IntKind.i64 (Int.tdiv x10.Divide 2)) * r37.period_))))] 71 := hb58
        refine TL.done ?_
        refine NX.seq ?_
        refine WC.seq ?_
        refine WC.seq ?_
        refine WC.region ?_
        refine TL.yld rfl rfl (yld_fieldAddr rfl fo_45_7 rfl) ?_
        refine TL.yld rfl rfl (yld_load1 7 rfl ag_4 rfl (Box.cells hb21) rfl rfl) ?_
        refine TL.done ?_
        refine NX.seq ?_
        refine WC.cond rfl ?_ ?_
        · intro hc61
          replace hF := bif_t hc61 hF
          refine WC.region ?_
          refine TL.yld rfl rfl (yld_fieldAddr rfl fo_71_1 rfl) ?_
          refine TL.yld rfl rfl (yld_indexArr rfl Tryd.underlying69 cn_2 rfl rfl (by decide)) ?_
          refine TL.yld rfl rfl (yld_load1 2 rfl ag_2 rfl (Box.cells hb46) rfl rfl) ?_
          refine TL.yld rfl rfl (yld_fieldAddr rfl fo_71_1 rfl) ?_
          refine TL.yld rfl rfl (yld_indexArr rfl Tryd.underlying69 cn_2 rfl rfl (by decide)) ?_
          refine TL.yld rfl rfl (yld_load1 1 rfl ag_2 rfl (Box.cells hb46) rfl rfl) ?_
          refine TL.yld rfl rfl (yld_fieldAddr rfl fo_71_1 rfl) ?_
          refine TL.yld rfl rfl (yld_indexArr rfl Tryd.underlying69 cn_2 rfl rfl (by decide)) ?_
          refine TL.eff rfl rfl (eff_store rfl rfl rfl hb46 cn_2 rfl rfl) ?_
          rintro _ w62 ⟨hu63, hb64⟩
          have he65 : Ext w w62 := Below.trans he59 (Upd.below hu63 (by omega))
          have hb6 := Box.upd hb6 hu63 (by omega)
          have hb21 := Box.upd hb21 hu63 (by omega)
          have hz66 := (hu63).size
          have hb46 : Box w62 b43 [.int .i64 (IntKind.wrap IntKind.i64 (x10.Divide * r37.period_)), .int .i64 (IntKind.wrap IntKind.i64 (r37.edges_.e0 + (IntKind.wrap IntKind.i64 ((IntKind.wrap IntKind.i64 (Int.tdiv x10.Divide 2)) * r37.period_)))), .int .i64 (IntKind.wrap IntKind.i64 (r37.edges_.e0 + (IntKind.wrap IntKind.i64 ((IntKind.wrap IntKind.i64 (Int.tdiv x10.Divide 2)) * r37.period_))))] 71 := hb64
          refine TL.yld rfl rfl (yld_fieldAddr rfl fo_71_1 rfl) ?_
          refine TL.yld rfl rfl (yld_indexArr rfl Tryd.underlying69 cn_2 rfl rfl (by decide)) ?_
          refine TL.eff rfl rfl (eff_store rfl rfl rfl hb46 cn_2 rfl rfl) ?_
          rintro _ w67 ⟨hu68, hb69⟩
          have he70 : Ext w w67 := Below.trans he65 (Upd.below hu68 (by omega))
          have hb6 := Box.upd hb6 hu68 (by omega)
          have hb21 := Box.upd hb21 hu68 (by omega)
          have hz71 := (hu68).size
          have hb46 : Box w67 b43 [.int .i64 (IntKind.wrap IntKind.i64 (x10.Divide * r37.period_)), .int .i64 (IntKind.wrap IntKind.i64 (r37.edges_.e0 + (IntKind.wrap IntKind.i64 ((IntKind.wrap IntKind.i64 (Int.tdiv x10.Divide 2)) * r37.period_)))), .int .i64 r37.edges_.e0] 71 := hb69
          refine TL.done ?_
          refine NX.seq ?_
          refine WC.seq ?_
          refine WC.region ?_
          refine TL.yld rfl rfl (yld_loadN (us := [.int .i64 (IntKind.wrap IntKind.i64 (x10.Divide * r37.period_)), .int .i64 (IntKind.wrap IntKind.i64 (r37.edges_.e0 + (IntKind.wrap IntKind.i64 ((IntKind.wrap IntKind.i64 (Int.tdiv x10.Divide 2)) * r37.period_)))), .int .i64 r37.edges_.e0]) rfl ag_71 rfl (Box.cells hb46) cn_71) ?_
          refine TL.eff rfl rfl (eff_store rfl rfl rfl hb6 cn_71 rfl rfl) ?_
          rintro _ w72 ⟨hu73, hb74⟩
          have he75 : Ext w w72 := Below.trans he70 (Upd.below hu73 (by omega))
          have hb21 := Box.upd hb21 hu73 (by omega)
          have hb46 := Box.upd hb46 hu73 (by omega)
          have hz76 := (hu73).size
          have hb6 : Box w72 b3 [.int .i64 (IntKind.wrap IntKind.i64 (x10.Divide * r37.period_)), .int .i64 (IntKind.wrap IntKind.i64 (r37.edges_.e0 + (IntKind.wrap IntKind.i64 ((IntKind.wrap IntKind.i64 (Int.tdiv x10.Divide 2)) * r37.period_)))), .int .i64 r37.edges_.e0] 71 := hb74
          refine TL.done ?_
          refine NX.seq ?_
          refine WC.ret' ?_
          obtain rfl := Option.some.inj hF
          exact NX.end (rs := [.cell 4 71]) (vs := [.agg #[.int .i64 (IntKind.wrap IntKind.i64 (x10.Divide * r37.period_)), .int .i64 (IntKind.wrap IntKind.i64 (r37.edges_.e0 + (IntKind.wrap IntKind.i64 ((IntKind.wrap IntKind.i64 (Int.tdiv x10.Divide 2)) * r37.period_)))), .int .i64 r37.edges_.e0]]) rfl ⟨⟨b3, rfl, box_load ag_71 cn_71 hb6⟩, trivial⟩ ⟨_, rfl, rfl, he75⟩
        · intro hc77
          replace hF := bif_f hc77 hF
          refine WC.skip' ?_
          refine NX.seq ?_
          refine WC.seq ?_
          refine WC.region ?_
          refine TL.yld rfl rfl (yld_loadN (us := [.int .i64 (IntKind.wrap IntKind.i64 (x10.Divide * r37.period_)), .int .i64 r37.edges_.e0, .int .i64 (IntKind.wrap IntKind.i64 (r37.edges_.e0 + (IntKind.wrap IntKind.i64 ((IntKind.wrap IntKind.i64 (Int.tdiv x10.Divide 2)) * r37.period_))))]) rfl ag_71 rfl (Box.cells hb46) cn_71) ?_
          refine TL.eff rfl rfl (eff_store rfl rfl rfl hb6 cn_71 rfl rfl) ?_
          rintro _ w78 ⟨hu79, hb80⟩
          have he81 : Ext w w78 := Below.trans he59 (Upd.below hu79 (by omega))
          have hb21 := Box.upd hb21 hu79 (by omega)
          have hb46 := Box.upd hb46 hu79 (by omega)
          have hz82 := (hu79).size
          have hb6 : Box w78 b3 [.int .i64 (IntKind.wrap IntKind.i64 (x10.Divide * r37.period_)), .int .i64 r37.edges_.e0, .int .i64 (IntKind.wrap IntKind.i64 (r37.edges_.e0 + (IntKind.wrap IntKind.i64 ((IntKind.wrap IntKind.i64 (Int.tdiv x10.Divide 2)) * r37.period_))))] 71 := hb80
          refine TL.done ?_
          refine NX.seq ?_
          refine WC.ret' ?_
          obtain rfl := Option.some.inj hF
          exact NX.end (rs := [.cell 4 71]) (vs := [.agg #[.int .i64 (IntKind.wrap IntKind.i64 (x10.Divide * r37.period_)), .int .i64 r37.edges_.e0, .int .i64 (IntKind.wrap IntKind.i64 (r37.edges_.e0 + (IntKind.wrap IntKind.i64 ((IntKind.wrap IntKind.i64 (Int.tdiv x10.Divide 2)) * r37.period_))))]]) rfl ⟨⟨b3, rfl, box_load ag_71 cn_71 hb6⟩, trivial⟩ ⟨_, rfl, rfl, he81⟩
      · intro hc83
        replace hF := bif_f hc83 hF
        refine WC.skip' ?_
        refine NX.seq ?_
        refine WC.seq ?_
        refine WC.seq ?_
        refine WC.region ?_
        refine TL.yld rfl rfl (yld_fieldAddr rfl fo_45_7 rfl) ?_
        refine TL.yld rfl rfl (yld_load1 7 rfl ag_4 rfl (Box.cells hb21) rfl rfl) ?_
        refine TL.done ?_
        refine NX.seq ?_
        refine WC.cond rfl ?_ ?_
        · intro hc84
          replace hF := bif_t hc84 hF
          refine WC.region ?_
          refine TL.yld rfl rfl (yld_fieldAddr rfl fo_71_1 rfl) ?_
          refine TL.yld rfl rfl (yld_indexArr rfl Tryd.underlying69 cn_2 rfl rfl (by decide)) ?_
          refine TL.yld rfl rfl (yld_load1 2 rfl ag_2 rfl (Box.cells hb46) rfl rfl) ?_
          refine TL.yld rfl rfl (yld_fieldAddr rfl fo_71_1 rfl) ?_
          refine TL.yld rfl rfl (yld_indexArr rfl Tryd.underlying69 cn_2 rfl rfl (by decide)) ?_
          refine TL.yld rfl rfl (yld_load1 1 rfl ag_2 rfl (Box.cells hb46) rfl rfl) ?_
          refine TL.yld rfl rfl (yld_fieldAddr rfl fo_71_1 rfl) ?_
          refine TL.yld rfl rfl (yld_indexArr rfl Tryd.underlying69 cn_2 rfl rfl (by decide)) ?_
          refine TL.eff rfl rfl (eff_store rfl rfl rfl hb46 cn_2 rfl rfl) ?_
          rintro _ w85 ⟨hu86, hb87⟩
          have he88 : Ext w w85 := Below.trans he53 (Upd.below hu86 (by omega))
          have hb6 := Box.upd hb6 hu86 (by omega)
          have hb21 := Box.upd hb21 hu86 (by omega)
          have hz89 := (hu86).size
          have hb46 : Box w85 b43 [.int .i64 r37.period_, .int .i64 r37.edges_.e1, .int .i64 r37.edges_.e1] 71 := hb87
          refine TL.yld rfl rfl (yld_fieldAddr rfl fo_71_1 rfl) ?_
          refine TL.yld rfl rfl (yld_indexArr rfl Tryd.underlying69 cn_2 rfl rfl (by decide)) ?_
          refine TL.eff rfl rfl (eff_store rfl rfl rfl hb46 cn_2 rfl rfl) ?_
          rintro _ w90 ⟨hu91, hb92⟩
          have he93 : Ext w w90 := Below.trans he88 (Upd.below hu91 (by omega))
          have hb6 := Box.upd hb6 hu91 (by omega)
          have hb21 := Box.upd hb21 hu91 (by omega)
          have hz94 := (hu91).size
          have hb46 : Box w90 b43 [.int .i64 r37.period_, .int .i64 r37.edges_.e1, .int .i64 r37.edges_.e0] 71 := hb92
          refine TL.done ?_
          refine NX.seq ?_
          refine WC.seq ?_
          refine WC.region ?_
          refine TL.yld rfl rfl (yld_loadN (us := [.int .i64 r37.period_, .int .i64 r37.edges_.e1, .int .i64 r37.edges_.e0]) rfl ag_71 rfl (Box.cells hb46) cn_71) ?_
          refine TL.eff rfl rfl (eff_store rfl rfl rfl hb6 cn_71 rfl rfl) ?_
          rintro _ w95 ⟨hu96, hb97⟩
          have he98 : Ext w w95 := Below.trans he93 (Upd.below hu96 (by omega))
          have hb21 := Box.upd hb21 hu96 (by omega)
          have hb46 := Box.upd hb46 hu96 (by omega)
          have hz99 := (hu96).size
          have hb6 : Box w95 b3 [.int .i64 r37.period_, .int .i64 r37.edges_.e1, .int .i64 r37.edges_.e0] 71 := hb97
          refine TL.done ?_
          refine NX.seq ?_
          refine WC.ret' ?_
          obtain rfl := Option.some.inj hF
          exact NX.end (rs := [.cell 4 71]) (vs := [.agg #[.int .i64 r37.period_, .int .i64 r37.edges_.e1, .int .i64 r37.edges_.e0]]) rfl ⟨⟨b3, rfl, box_load ag_71 cn_71 hb6⟩, trivial⟩ ⟨_, rfl, rfl, he98⟩
        · intro hc100
          replace hF := bif_f hc100 hF
          refine WC.skip' ?_
          refine NX.seq ?_
          refine WC.seq ?_
          refine WC.region ?_
          refine TL.yld rfl rfl (yld_loadN (us := [.int .i64 r37.period_, .int .i64 r37.edges_.e0, .int .i64 r37.edges_.e1]) rfl ag_71 rfl (Box.cells hb46) cn_71) ?_
          refine TL.eff rfl rfl (eff_store rfl rfl rfl hb6 cn_71 rfl rfl) ?_
          rintro _ w101 ⟨hu102, hb103⟩
          have he104 : Ext w w101 := Below.trans he53 (Upd.below hu102 (by omega))
          have hb21 := Box.upd hb21 hu102 (by omega)
          have hb46 := Box.upd hb46 hu102 (by omega)
          have hz105 := (hu102).size
          have hb6 : Box w101 b3 [.int .i64 r37.period_, .int .i64 r37.edges_.e0, .int .i64 r37.edges_.e1] 71 := hb103
          refine TL.done ?_
          refine NX.seq ?_
          refine WC.ret' ?_
          obtain rfl := Option.some.inj hF
          exact NX.end (rs := [.cell 4 71]) (vs := [.agg #[.int .i64 r37.period_, .int .i64 r37.edges_.e0, .int .i64 r37.edges_.e1]]) rfl ⟨⟨b3, rfl, box_load ag_71 cn_71 hb6⟩, trivial⟩ ⟨_, rfl, rfl, he104⟩
termination_by n

-- loop.example/g00861/impl.within
def F_impl_within (n : Nat) (a0_x : Int) (a1_low : Int) (a2_high : Int) : Option Bool := (some (((decide (a0_x ≥ a1_low)) && (decide (a0_x ≤ a2_high)))))
set_option maxHeartbeats 40000000 in
theorem W_impl_within {n : Nat} {a0_x : Int} {a1_low : Int} {a2_high : Int} {r : Bool} {w : World} (hF : F_impl_within n a0_x a1_low a2_high = some r) :
    Calls Tryd.prog 72 [.int .i64 a0_x, .int .i64 a1_low, .int .i64 a2_high].toArray w (Ret fun u w2 => u = .bool r ∧ Ext w w2) := by
  refine calls_of Tryd.func72 rfl Tryd.ntmps72 ?_
  have he0 : Ext w w := Ext.refl w
  unfold F_impl_within at hF
  refine WC.seq ?_
  refine WC.region ?_
  refine TL.yld rfl rfl (yld_assign rfl rfl) ?_
  refine TL.done ?_
  refine NX.seq ?_
  refine WC.seq ?_
  refine WC.region ?_
  refine TL.yld rfl rfl (yld_move rfl rfl) ?_
  refine TL.yld rfl rfl (yld_move rfl rfl) ?_
  refine TL.yld rfl rfl (yld_geq rfl rfl rfl) ?_
  refine TL.yld rfl rfl (yld_move rfl rfl) ?_
  refine TL.cut 4 [(14, .bool (((decide (a0_x ≥ a1_low)) && (decide (a0_x ≤ a2_high)))))] (fun w' => Ext w w') ?_ ?_
  · rcases Bool.eq_false_or_eq_true (decide (a0_x ≥ a1_low)) with hg1 | hg1
    ·
      refine TL.gy (j := 3) (t := 10) rfl rfl rfl hg1 rfl (yld_move rfl rfl) ?_
      refine TL.gy (j := 3) (t := 10) rfl rfl rfl hg1 rfl (yld_move rfl rfl) ?_
      refine TL.gy (j := 3) (t := 10) rfl rfl rfl hg1 rfl (yld_leq rfl rfl rfl) ?_
      refine TL.yld rfl rfl (yld_and_t rfl rfl hg1 rfl) ?_
      exact TL.nil fun a h => ⟨h.weaken ⟨rfl, trivial⟩, Ext.refl _⟩
    ·
      refine TL.gnu (j := 3) (t := 10) rfl rfl rfl hg1 rfl ?_
      refine TL.gnu (j := 3) (t := 10) rfl rfl rfl hg1 rfl ?_
      refine TL.gnu (j := 3) (t := 10) rfl rfl rfl hg1 rfl ?_
      refine TL.yld rfl rfl (yld_and_f (b2 := decide (a0_x ≤ a2_high)) rfl rfl hg1 rfl) ?_
      exact TL.nil fun a h => ⟨h.weaken ⟨rfl, trivial⟩, Ext.refl _⟩
  intro w2 hx3
  have he4 : Ext w w2 := Ext.trans he0 hx3
  have hz5 := (hx3).size
  refine TL.yld rfl rfl (yld_assign rfl rfl) ?_
  refine TL.done ?_
  refine NX.seq ?_
  refine WC.ret' ?_
  obtain rfl := Option.some.inj hF
  exact NX.end (rs := [.tmp 6]) (vs := [.bool (((decide (a0_x ≥ a1_low)) && (decide (a0_x ≤ a2_high))))]) rfl ⟨rfl, trivial⟩ ⟨_, rfl, rfl, he4⟩

-- (loop.example/g00861/impl.Clock).isPrimary
def F_impl_Clock_isPrimary (n : Nat) (a0_c : S_Clock) : Option Bool := (Option.bind (F_impl_within n a0_c.Period 2 100000) fun r8 => (Option.bind (bif r8 then (Option.bind (F_impl_within n a0_c.RiseAt 0 (IntKind.wrap IntKind.i64 (a0_c.Period - 1))) fun r14 => (some r14)) else (some false)) fun c14 => (Option.bind (bif c14 then (Option.bind (F_impl_within n a0_c.FallAt 0 (IntKind.wrap IntKind.i64 (a0_c.Period - 1))) fun r27 => (some r27)) else (some false)) fun c27 => (some ((((((c27 && ((a0_c.RiseAt != a0_c.FallAt)))) && ((a0_c.Divide == 1)))) && (!a0_c.Invert)))))))
set_option maxHeartbeats 40000000 in
theorem W_impl_Clock_isPrimary {n : Nat} {a0_c : S_Clock} {r : Bool} {w : World} (hF : F_impl_Clock_isPrimary n a0_c = some r) :
    Calls Tryd.prog 73 [.agg #[.string a0_c.Name, .int .i64 a0_c.Place, .int .i64 a0_c.Period, .int .i64 a0_c.RiseAt, .int .i64 a0_c.FallAt, .int .i64 a0_c.Source, .int .i64 a0_c.Divide, .bool a0_c.Invert, .int .i64 a0_c.EarlyLatency, .int .i64 a0_c.LateLatency, .int .i64 a0_c.Uncertainty]].toArray w (Ret fun u w2 => u = .bool r ∧ Ext w w2) := by
  refine calls_of Tryd.func73 rfl Tryd.ntmps73 ?_
  have he0 : Ext w w := Ext.refl w
  unfold F_impl_Clock_isPrimary at hF
  refine WC.seq ?_
  refine WC.region ?_
  refine TL.eff rfl rfl (eff_box rfl rfl) ?_
  rintro _ w2 ⟨b1, rfl, hn3⟩
  obtain ⟨hn3e, hn3s, hn3x, hb4⟩ := hn3
  have hb4 : Box w2 b1 [.string a0_c.Name, .int .i64 a0_c.Place, .int .i64 a0_c.Period, .int .i64 a0_c.RiseAt, .int .i64 a0_c.FallAt, .int .i64 a0_c.Source, .int .i64 a0_c.Divide, .bool a0_c.Invert, .int .i64 a0_c.EarlyLatency, .int .i64 a0_c.LateLatency, .int .i64 a0_c.Uncertainty] 45 := hb4
  have he6 : Ext w w2 := Ext.trans he0 hn3x
  have hz7 := (hn3x).size
  have hlo5 : w.heap.size ≤ b1 := by rw [hn3e]; exact (he0).size
  refine TL.yld rfl rfl (yld_assign rfl rfl) ?_
  refine TL.done ?_
  refine NX.seq ?_
  refine WC.seq ?_
  refine WC.region ?_
  refine TL.yld rfl rfl (yld_fieldAddr rfl fo_45_2 rfl) ?_
  refine TL.yld rfl rfl (yld_load1 2 rfl ag_2 rfl (Box.cells hb4) rfl rfl) ?_
  obtain ⟨r8, hr9, hF⟩ := bsome hF
  refine TL.eff rfl rfl (eff_call rfl gf_72 rfl (W_impl_within hr9)) ?_
  rintro _ w10 ⟨rfl, hx11⟩
  have he12 : Ext w w10 := Ext.trans he6 hx11
  have hb4 := Box.ext hb4 hx11
  have hz13 := (hx11).size
  refine TL.yld rfl rfl (yld_move rfl rfl) ?_
  obtain ⟨c14, hb15, hF⟩ := bsome hF
  refine TL.cut 7 [(1, .pointer (some ⟨b1, 0, none⟩)), (13, .bool c14)] (fun w' => Ext w10 w') ?_ ?_
  · rcases Bool.eq_false_or_eq_true r8 with hg16 | hg16
    ·
      rw [hg16] at hb15; simp only [cond_true, cond_false] at hb15
      replace hF := hb15
      refine TL.gy (j := 3) (t := 6) rfl rfl rfl hg16 rfl (yld_fieldAddr rfl fo_45_3 rfl) ?_
      refine TL.gy (j := 3) (t := 6) rfl rfl rfl hg16 rfl (yld_load1 3 rfl ag_2 rfl (Box.cells hb4) rfl rfl) ?_
      refine TL.gy (j := 3) (t := 6) rfl rfl rfl hg16 rfl (yld_fieldAddr rfl fo_45_2 rfl) ?_
      refine TL.gy (j := 3) (t := 6) rfl rfl rfl hg16 rfl (yld_load1 2 rfl ag_2 rfl (Box.cells hb4) rfl rfl) ?_
      refine TL.gy (j := 3) (t := 6) rfl rfl rfl hg16 rfl (yld_sub rfl rfl rfl) ?_
      obtain ⟨r17, hr18, hF⟩ := bsome hF
      refine TL.ge (j := 3) (t := 6) rfl rfl rfl hg16 rfl (eff_call rfl gf_72 rfl (W_impl_within hr18)) ?_
      rintro _ w19 ⟨rfl, hx20⟩
      have he21 : Ext w w19 := Ext.trans he12 hx20
      have hb4 := Box.ext hb4 hx20
      have hz22 := (hx20).size
      obtain rfl := Option.some.inj hF
      refine TL.yld rfl rfl (yld_pick_t rfl rfl hg16 rfl) ?_
      exact TL.nil fun a h => ⟨h.weaken ⟨rfl, rfl, trivial⟩, hx20⟩
    ·
      rw [hg16] at hb15; simp only [cond_true, cond_false] at hb15
      refine TL.gnu (j := 3) (t := 6) rfl rfl rfl hg16 rfl ?_
      refine TL.gnu (j := 3) (t := 6) rfl rfl rfl hg16 rfl ?_
      refine TL.gnu (j := 3) (t := 6) rfl rfl rfl hg16 rfl ?_
      refine TL.gnu (j := 3) (t := 6) rfl rfl rfl hg16 rfl ?_
      refine TL.gnu (j := 3) (t := 6) rfl rfl rfl hg16 rfl ?_
      refine TL.gnu (j := 3) (t := 6) rfl rfl rfl hg16 rfl ?_
      obtain rfl := Option.some.inj hb15
      refine TL.yld rfl rfl (yld_pick_f rfl rfl hg16 rfl) ?_
      exact TL.nil fun a h => ⟨h.weaken ⟨rfl, rfl, trivial⟩, Ext.refl _⟩
  intro w23 hx24
  have he25 : Ext w w23 := Ext.trans he12 hx24
  have hb4 := Box.ext hb4 hx24
  have hz26 := (hx24).size
  refine TL.yld rfl rfl (yld_move rfl rfl) ?_
  obtain ⟨c27, hb28, hF⟩ := bsome hF
  refine TL.cut 7 [(1, .pointer (some ⟨b1, 0, none⟩)), (21, .bool c27)] (fun w' => Ext w23 w') ?_ ?_
  · rcases Bool.eq_false_or_eq_true c14 with hg29 | hg29
    ·
      rw [hg29] at hb28; simp only [cond_true, cond_false] at hb28
      replace hF := hb28
      refine TL.gy (j := 11) (t := 14) rfl rfl rfl hg29 rfl (yld_fieldAddr rfl fo_45_4 rfl) ?_
      refine TL.gy (j := 11) (t := 14) rfl rfl rfl hg29 rfl (yld_load1 4 rfl ag_2 rfl (Box.cells hb4) rfl rfl) ?_
      refine TL.gy (j := 11) (t := 14) rfl rfl rfl hg29 rfl (yld_fieldAddr rfl fo_45_2 rfl) ?_
      refine TL.gy (j := 11) (t := 14) rfl rfl rfl hg29 rfl (yld_load1 2 rfl ag_2 rfl (Box.cells hb4) rfl rfl) ?_
      refine TL.gy (j := 11) (t := 14) rfl rfl rfl hg29 rfl (yld_sub rfl rfl rfl) ?_
      obtain ⟨r30, hr31, hF⟩ := bsome hF
      refine TL.ge (j := 11) (t := 14) rfl rfl rfl hg29 rfl (eff_call rfl gf_72 rfl (W_impl_within hr31)) ?_
      rintro _ w32 ⟨rfl, hx33⟩
      have he34 : Ext w w32 := Ext.trans he25 hx33
      have hb4 := Box.ext hb4 hx33
      have hz35 := (hx33).size
      obtain rfl := Option.some.inj hF
      refine TL.yld rfl rfl (yld_pick_t rfl rfl hg29 rfl) ?_
      exact TL.nil fun a h => ⟨h.weaken ⟨rfl, rfl, trivial⟩, hx33⟩
    ·
      rw [hg29] at hb28; simp only [cond_true, cond_false] at hb28
      refine TL.gnu (j := 11) (t := 14) rfl rfl rfl hg29 rfl ?_
      refine TL.gnu (j := 11) (t := 14) rfl rfl rfl hg29 rfl ?_
      refine TL.gnu (j := 11) (t := 14) rfl rfl rfl hg29 rfl ?_
      refine TL.gnu (j := 11) (t := 14) rfl rfl rfl hg29 rfl ?_
      refine TL.gnu (j := 11) (t := 14) rfl rfl rfl hg29 rfl ?_
      refine TL.gnu (j := 11) (t := 14) rfl rfl rfl hg29 rfl ?_
      obtain rfl := Option.some.inj hb28
      refine TL.yld rfl rfl (yld_pick_f rfl rfl hg29 rfl) ?_
      exact TL.nil fun a h => ⟨h.weaken ⟨rfl, rfl, trivial⟩, Ext.refl _⟩
  intro w36 hx37
  have he38 : Ext w w36 := Ext.trans he25 hx37
  have hb4 := Box.ext hb4 hx37
  have hz39 := (hx37).size
  refine TL.yld rfl rfl (yld_move rfl rfl) ?_
  refine TL.cut 6 [(1, .pointer (some ⟨b1, 0, none⟩)), (28, .bool ((c27 && ((a0_c.RiseAt != a0_c.FallAt)))))] (fun w' => Ext w36 w') ?_ ?_
  · rcases Bool.eq_false_or_eq_true c27 with hg40 | hg40
    ·
      refine TL.gy (j := 19) (t := 22) rfl rfl rfl hg40 rfl (yld_fieldAddr rfl fo_45_3 rfl) ?_
      refine TL.gy (j := 19) (t := 22) rfl rfl rfl hg40 rfl (yld_load1 3 rfl ag_2 rfl (Box.cells hb4) rfl rfl) ?_
      refine TL.gy (j := 19) (t := 22) rfl rfl rfl hg40 rfl (yld_fieldAddr rfl fo_45_4 rfl) ?_
      refine TL.gy (j := 19) (t := 22) rfl rfl rfl hg40 rfl (yld_load1 4 rfl ag_2 rfl (Box.cells hb4) rfl rfl) ?_
      refine TL.gy (j := 19) (t := 22) rfl rfl rfl hg40 rfl (yld_neq rfl rfl rfl) ?_
      refine TL.yld rfl rfl (yld_and_t rfl rfl hg40 rfl) ?_
      exact TL.nil fun a h => ⟨h.weaken ⟨rfl, rfl, trivial⟩, Ext.refl _⟩
    ·
      refine TL.gnu (j := 19) (t := 22) rfl rfl rfl hg40 rfl ?_
      refine TL.gnu (j := 19) (t := 22) rfl rfl rfl hg40 rfl ?_
      refine TL.gnu (j := 19) (t := 22) rfl rfl rfl hg40 rfl ?_
      refine TL.gnu (j := 19) (t := 22) rfl rfl rfl hg40 rfl ?_
      refine TL.gnu (j := 19) (t := 22) rfl rfl rfl hg40 rfl ?_
      refine TL.yld rfl rfl (yld_and_f (b2 := (a0_c.RiseAt != a0_c.FallAt)) rfl rfl hg40 rfl) ?_
      exact TL.nil fun a h => ⟨h.weaken ⟨rfl, rfl, trivial⟩, Ext.refl _⟩
  intro w41 hx42
  have he43 : Ext w w41 := Ext.trans he38 hx42
  have hb4 := Box.ext hb4 hx42
  have hz44 := (hx42).size
  refine TL.yld rfl rfl (yld_move rfl rfl) ?_
  refine TL.cut 4 [(1, .pointer (some ⟨b1, 0, none⟩)), (33, .bool ((((c27 && ((a0_c.RiseAt != a0_c.FallAt)))) && ((a0_c.Divide == 1)))))] (fun w' => Ext w41 w') ?_ ?_
  · rcases Bool.eq_false_or_eq_true ((c27 && ((a0_c.RiseAt != a0_c.FallAt)))) with hg45 | hg45
    ·
      refine TL.gy (j := 26) (t := 29) rfl rfl rfl hg45 rfl (yld_fieldAddr rfl fo_45_6 rfl) ?_
      refine TL.gy (j := 26) (t := 29) rfl rfl rfl hg45 rfl (yld_load1 6 rfl ag_2 rfl (Box.cells hb4) rfl rfl) ?_
      refine TL.gy (j := 26) (t := 29) rfl rfl rfl hg45 rfl (yld_eql rfl rfl rfl) ?_
      refine TL.yld rfl rfl (yld_and_t rfl rfl hg45 rfl) ?_
      exact TL.nil fun a h => ⟨h.weaken ⟨rfl, rfl, trivial⟩, Ext.refl _⟩
    ·
      refine TL.gnu (j := 26) (t := 29) rfl rfl rfl hg45 rfl ?_
      refine TL.gnu (j := 26) (t := 29) rfl rfl rfl hg45 rfl ?_
      refine TL.gnu (j := 26) (t := 29) rfl rfl rfl hg45 rfl ?_
      refine TL.yld rfl rfl (yld_and_f (b2 := (a0_c.Divide == 1)) rfl rfl hg45 rfl) ?_
      exact TL.nil fun a h => ⟨h.weaken ⟨rfl, rfl, trivial⟩, Ext.refl _⟩
  intro w46 hx47
  have he48 : Ext w w46 := Ext.trans he43 hx47
  have hb4 := Box.ext hb4 hx47
  have hz49 := (hx47).size
  refine TL.yld rfl rfl (yld_move rfl rfl) ?_
  refine TL.cut 4 [(38, .bool ((((((c27 && ((a0_c.RiseAt != a0_c.FallAt)))) && ((a0_c.Divide == 1)))) && (!a0_c.Invert))))] (fun w' => Ext w46 w') ?_ ?_
  · rcases Bool.eq_false_or_eq_true ((((c27 && ((a0_c.RiseAt != a0_c.FallAt)))) && ((a0_c.Divide == 1)))) with hg50 | hg50
    ·
      refine TL.gy (j := 31) (t := 34) rfl rfl rfl hg50 rfl (yld_fieldAddr rfl fo_45_7 rfl) ?_
      refine TL.gy (j := 31) (t := 34) rfl rfl rfl hg50 rfl (yld_load1 7 rfl ag_4 rfl (Box.cells hb4) rfl rfl) ?_
      refine TL.gy (j := 31) (t := 34) rfl rfl rfl hg50 rfl (yld_not rfl rfl) ?_
      refine TL.yld rfl rfl (yld_and_t rfl rfl hg50 rfl) ?_
      exact TL.nil fun a h => ⟨h.weaken ⟨rfl, trivial⟩, Ext.refl _⟩
    ·
      refine TL.gnu (j := 31) (t := 34) rfl rfl rfl hg50 rfl ?_
      refine TL.gnu (j := 31) (t := 34) rfl rfl rfl hg50 rfl ?_
      refine TL.gnu (j := 31) (t := 34) rfl rfl rfl hg50 rfl ?_
      refine TL.yld rfl rfl (yld_and_f (b2 := (!a0_c.Invert)) rfl rfl hg50 rfl) ?_
      exact TL.nil fun a h => ⟨h.weaken ⟨rfl, trivial⟩, Ext.refl _⟩
  intro w51 hx52
  have he53 : Ext w w51 := Ext.trans he48 hx52
  have hb4 := Box.ext hb4 hx52
  have hz54 := (hx52).size
  refine TL.yld rfl rfl (yld_assign rfl rfl) ?_
  refine TL.done ?_
  refine NX.seq ?_
  refine WC.ret' ?_
  obtain rfl := Option.some.inj hF
  exact NX.end (rs := [.tmp 2]) (vs := [.bool ((((((c27 && ((a0_c.RiseAt != a0_c.FallAt)))) && ((a0_c.Divide == 1)))) && (!a0_c.Invert)))]) rfl ⟨rfl, trivial⟩ ⟨_, rfl, rfl, he53⟩

-- loop.example/g00861/impl.isClock
def F_impl_isClock (n : Nat) (a0_list : List S_Clock) (a1_k : Int) : Option Bool := (Option.bind (getI a0_list a1_k) fun x3 => (Option.bind (bif ((((((decide (x3.Place < 0)) || (decide (x3.EarlyLatency < 0)))) || (decide (x3.EarlyLatency > x3.LateLatency)))) || (decide (x3.LateLatency > 100000))) then (some true) else (Option.bind (F_impl_within n x3.Uncertainty 0 100000) fun r38 => (some (!r38)))) fun c38 => (bif c38 then (some false) else (bif (x3.Source == (-1)) then (Option.bind (F_impl_Clock_isPrimary n x3) fun r54 => (some r54)) else (Option.bind (F_impl_within n x3.Source 0 (IntKind.wrap IntKind.i64 (a1_k - 1))) fun r61 => (Option.bind (bif r61 then (Option.bind (F_impl_within n x3.Divide 1 8) fun r67 => (some r67)) else (some false)) fun c67 => (Option.bind (bif (((((c67 && ((x3.Period == 0)))) && ((x3.RiseAt == 0)))) && ((x3.FallAt == 0))) then (Option.bind (F_impl_waveOf n a0_list a1_k) fun r95 => (some (decide (r95.period_ ≤ 100000)))) else (some false)) fun c95 => (some c95))))))))
set_option maxHeartbeats 40000000 in
theorem W_impl_isClock {n : Nat} {a0_list : List S_Clock} {a1_k : Int} {r : Bool} {w : World} {v1 : Value} (hF : F_impl_isClock n a0_list a1_k = some r) (ha2 : slRep C_Clock w (Iv 0 w.heap.size) a0_list v1) :
    Calls Tryd.prog 50 [v1, .int .i64 a1_k].toArray w (Ret fun u w2 => u = .bool r ∧ Ext w w2) := by
  refine calls_of Tryd.func50 rfl Tryd.ntmps50 ?_
  have he0 : Ext w w := Ext.refl w
  unfold F_impl_isClock at hF
  refine WC.seq ?_
  refine WC.region ?_
  refine TL.yld rfl rfl (yld_assign rfl rfl) ?_
  refine TL.done ?_
  refine NX.seq ?_
  refine WC.seq ?_
  refine WC.region ?_
  refine TL.yld rfl rfl (yld_move rfl rfl) ?_
  refine TL.yld rfl rfl (yld_move rfl rfl) ?_
  obtain ⟨x3, hy4, hF⟩ := bsome hF
  refine TL.ye rfl rfl (ye_index (c := C_Clock) rfl Tryd.underlying25 cn_45 rfl rfl (slRep.old ha2 he0 (Nat.le_refl _)) hy4) ?_
  rintro _ ⟨b5, o6, us7, rfl, hib10, hr8, hcl9⟩
  have hib10 : 0 ≤ b5 ∧ b5 < w.heap.size := ⟨hib10.1, by have := hib10.2; omega⟩
  obtain rfl := C_Clock_open hr8
  refine TL.yld rfl rfl (yld_loadN (us := [.string x3.Name, .int .i64 x3.Place, .int .i64 x3.Period, .int .i64 x3.RiseAt, .int .i64 x3.FallAt, .int .i64 x3.Source, .int .i64 x3.Divide, .bool x3.Invert, .int .i64 x3.EarlyLatency, .int .i64 x3.LateLatency, .int .i64 x3.Uncertainty]) rfl ag_45 rfl hcl9 cn_45) ?_
  refine TL.eff rfl rfl (eff_alloc rfl zn_45) ?_
  rintro _ w12 ⟨b11, rfl, hn13⟩
  obtain ⟨hn13e, hn13s, hn13x, hb14⟩ := hn13
  have hb14 : Box w12 b11 [.string ByteArray.empty, .int .i64 0, .int .i64 0, .int .i64 0, .int .i64 0, .int .i64 0, .int .i64 0, .bool false, .int .i64 0, .int .i64 0, .int .i64 0] 45 := hb14
  have he16 : Ext w w12 := Ext.trans he0 hn13x
  have hz17 := (hn13x).size
  have hlo15 : w.heap.size ≤ b11 := by rw [hn13e]; exact (he0).size
  refine TL.eff rfl rfl (eff_store rfl rfl rfl hb14 cn_45 rfl rfl) ?_
  rintro _ w18 ⟨hu19, hb20⟩
  have he21 : Ext w w18 := Below.trans he16 (Upd.below hu19 (by omega))
  have hz22 := (hu19).size
  have hb14 : Box w18 b11 [.string x3.Name, .int .i64 x3.Place, .int .i64 x3.Period, .int .i64 x3.RiseAt, .int .i64 x3.FallAt, .int .i64 x3.Source, .int .i64 x3.Divide, .bool x3.Invert, .int .i64 x3.EarlyLatency, .int .i64 x3.LateLatency, .int .i64 x3.Uncertainty] 45 := hb20
  refine TL.done ?_
  refine NX.seq ?_
  refine WC.seq ?_
  refine WC.seq ?_
  refine WC.region ?_
  refine TL.yld rfl rfl (yld_fieldAddr rfl fo_45_1 rfl) ?_
  refine TL.yld rfl rfl (yld_load1 1 rfl ag_2 rfl (Box.cells hb14) rfl rfl) ?_
  refine TL.yld rfl rfl (yld_lss rfl rfl rfl) ?_
  refine TL.yld rfl rfl (yld_move rfl rfl) ?_
  refine TL.cut 4 [(0, v1), (1, .int .i64 a1_k), (5, .pointer (some ⟨b11, 0, none⟩)), (17, .bool (((decide (x3.Place < 0)) || (decide (x3.EarlyLatency < 0)))))] (fun w' => Ext w18 w') ?_ ?_
  · rcases Bool.eq_false_or_eq_true (decide (x3.Place < 0)) with hg23 | hg23
    ·
      refine TL.gnu (j := 3) (t := 13) rfl rfl rfl hg23 rfl ?_
      refine TL.gnu (j := 3) (t := 13) rfl rfl rfl hg23 rfl ?_
      refine TL.gnu (j := 3) (t := 13) rfl rfl rfl hg23 rfl ?_
      refine TL.yld rfl rfl (yld_or_t (b2 := decide (x3.EarlyLatency < 0)) rfl rfl hg23 rfl) ?_
      exact TL.nil fun a h => ⟨h.weaken ⟨rfl, rfl, rfl, rfl, trivial⟩, Ext.refl _⟩
    ·
      refine TL.gy (j := 3) (t := 13) rfl rfl rfl hg23 rfl (yld_fieldAddr rfl fo_45_8 rfl) ?_
      refine TL.gy (j := 3) (t := 13) rfl rfl rfl hg23 rfl (yld_load1 8 rfl ag_2 rfl (Box.cells hb14) rfl rfl) ?_
      refine TL.gy (j := 3) (t := 13) rfl rfl rfl hg23 rfl (yld_lss rfl rfl rfl) ?_
      refine TL.yld rfl rfl (yld_or_f rfl rfl hg23 rfl) ?_
      exact TL.nil fun a h => ⟨h.weaken ⟨rfl, rfl, rfl, rfl, trivial⟩, Ext.refl _⟩
  intro w24 hx25
  have he26 : Ext w w24 := Ext.trans he21 hx25
  have hb14 := Box.ext hb14 hx25
  have hz27 := (hx25).size
  refine TL.yld rfl rfl (yld_move rfl rfl) ?_
  refine TL.cut 6 [(0, v1), (1, .int .i64 a1_k), (5, .pointer (some ⟨b11, 0, none⟩)), (24, .bool (((((decide (x3.Place < 0)) || (decide (x3.EarlyLatency < 0)))) || (decide (x3.EarlyLatency > x3.LateLatency)))))] (fun w' => Ext w24 w') ?_ ?_
  · rcases Bool.eq_false_or_eq_true (((decide (x3.Place < 0)) || (decide (x3.EarlyLatency < 0)))) with hg28 | hg28
    ·
      refine TL.gnu (j := 8) (t := 18) rfl rfl rfl hg28 rfl ?_
      refine TL.gnu (j := 8) (t := 18) rfl rfl rfl hg28 rfl ?_
      refine TL.gnu (j := 8) (t := 18) rfl rfl rfl hg28 rfl ?_
      refine TL.gnu (j := 8) (t := 18) rfl rfl rfl hg28 rfl ?_
      refine TL.gnu (j := 8) (t := 18) rfl rfl rfl hg28 rfl ?_
      refine TL.yld rfl rfl (yld_or_t (b2 := decide (x3.EarlyLatency > x3.LateLatency)) rfl rfl hg28 rfl) ?_
      exact TL.nil fun a h => ⟨h.weaken ⟨rfl, rfl, rfl, rfl, trivial⟩, Ext.refl _⟩
    ·
      refine TL.gy (j := 8) (t := 18) rfl rfl rfl hg28 rfl (yld_fieldAddr rfl fo_45_8 rfl) ?_
      refine TL.gy (j := 8) (t := 18) rfl rfl rfl hg28 rfl (yld_load1 8 rfl ag_2 rfl (Box.cells hb14) rfl rfl) ?_
      refine TL.gy (j := 8) (t := 18) rfl rfl rfl hg28 rfl (yld_fieldAddr rfl fo_45_9 rfl) ?_
      refine TL.gy (j := 8) (t := 18) rfl rfl rfl hg28 rfl (yld_load1 9 rfl ag_2 rfl (Box.cells hb14) rfl rfl) ?_
      refine TL.gy (j := 8) (t := 18) rfl rfl rfl hg28 rfl (yld_gtr rfl rfl rfl) ?_
      refine TL.yld rfl rfl (yld_or_f rfl rfl hg28 rfl) ?_
      exact TL.nil fun a h => ⟨h.weaken ⟨rfl, rfl, rfl, rfl, trivial⟩, Ext.refl _⟩
  intro w29 hx30
  have he31 : Ext w w29 := Ext.trans he26 hx30
  have hb14 := Box.ext hb14 hx30
  have hz32 := (hx30).size
  refine TL.yld rfl rfl (yld_move rfl rfl) ?_
  refine TL.cut 4 [(0, v1), (1, .int .i64 a1_k), (5, .pointer (some ⟨b11, 0, none⟩)), (29, .bool (((((((decide (x3.Place < 0)) || (decide (x3.EarlyLatency < 0)))) || (decide (x3.EarlyLatency > x3.LateLatency)))) || (decide (x3.LateLatency > 100000)))))] (fun w' => Ext w29 w') ?_ ?_
  · rcases Bool.eq_false_or_eq_true (((((decide (x3.Place < 0)) || (decide (x3.EarlyLatency < 0)))) || (decide (x3.EarlyLatency > x3.LateLatency)))) with hg33 | hg33
    ·
      refine TL.gnu (j := 15) (t := 25) rfl rfl rfl hg33 rfl ?_
      refine TL.gnu (j := 15) (t := 25) rfl rfl rfl hg33 rfl ?_
      refine TL.gnu (j := 15) (t := 25) rfl rfl rfl hg33 rfl ?_
      refine TL.yld rfl rfl (yld_or_t (b2 := decide (x3.LateLatency > 100000)) rfl rfl hg33 rfl) ?_
      exact TL.nil fun a h => ⟨h.weaken ⟨rfl, rfl, rfl, rfl, trivial⟩, Ext.refl _⟩
    ·
      refine TL.gy (j := 15) (t := 25) rfl rfl rfl hg33 rfl (yld_fieldAddr rfl fo_45_9 rfl) ?_
      refine TL.gy (j := 15) (t := 25) rfl rfl rfl hg33 rfl (yld_load1 9 rfl ag_2 rfl (Box.cells hb14) rfl rfl) ?_
      refine TL.gy (j := 15) (t := 25) rfl rfl rfl hg33 rfl (yld_gtr rfl rfl rfl) ?_
      refine TL.yld rfl rfl (yld_or_f rfl rfl hg33 rfl) ?_
      exact TL.nil fun a h => ⟨h.weaken ⟨rfl, rfl, rfl, rfl, trivial⟩, Ext.refl _⟩
  intro w34 hx35
  have he36 : Ext w w34 := Ext.trans he31 hx35
  have hb14 := Box.ext hb14 hx35
  have hz37 := (hx35).size
  refine TL.yld rfl rfl (yld_move rfl rfl) ?_
  obtain ⟨c38, hb39, hF⟩ := bsome hF
  refine TL.cut 5 [(0, v1), (1, .int .i64 a1_k), (5, .pointer (some ⟨b11, 0, none⟩)), (35, .bool c38)] (fun w' => Ext w34 w') ?_ ?_
  · rcases Bool.eq_false_or_eq_true (((((((decide (x3.Place < 0)) || (decide (x3.EarlyLatency < 0)))) || (decide (x3.EarlyLatency > x3.LateLatency)))) || (decide (x3.LateLatency > 100000)))) with hg40 | hg40
    ·
      rw [hg40] at hb39; simp only [cond_true, cond_false] at hb39
      refine TL.gnu (j := 20) (t := 30) rfl rfl rfl hg40 rfl ?_
      refine TL.gnu (j := 20) (t := 30) rfl rfl rfl hg40 rfl ?_
      refine TL.gnu (j := 20) (t := 30) rfl rfl rfl hg40 rfl ?_
      refine TL.gnu (j := 20) (t := 30) rfl rfl rfl hg40 rfl ?_
      obtain rfl := Option.some.inj hb39
      refine TL.yld rfl rfl (yld_pick_t rfl rfl hg40 rfl) ?_
      exact TL.nil fun a h => ⟨h.weaken ⟨rfl, rfl, rfl, rfl, trivial⟩, Ext.refl _⟩
    ·
      rw [hg40] at hb39; simp only [cond_true, cond_false] at hb39
      replace hF := hb39
      refine TL.gy (j := 20) (t := 30) rfl rfl rfl hg40 rfl (yld_fieldAddr rfl fo_45_10 rfl) ?_
      refine TL.gy (j := 20) (t := 30) rfl rfl rfl hg40 rfl (yld_load1 10 rfl ag_2 rfl (Box.cells hb14) rfl rfl) ?_
      obtain ⟨r41, hr42, hF⟩ := bsome hF
      refine TL.ge (j := 20) (t := 30) rfl rfl rfl hg40 rfl (eff_call rfl gf_72 rfl (W_impl_within hr42)) ?_
      rintro _ w43 ⟨rfl, hx44⟩
      have he45 : Ext w w43 := Ext.trans he36 hx44
      have hb14 := Box.ext hb14 hx44
      have hz46 := (hx44).size
      refine TL.gy (j := 20) (t := 30) rfl rfl rfl hg40 rfl (yld_not rfl rfl) ?_
      obtain rfl := Option.some.inj hF
      refine TL.yld rfl rfl (yld_pick_f rfl rfl hg40 rfl) ?_
      exact TL.nil fun a h => ⟨h.weaken ⟨rfl, rfl, rfl, rfl, trivial⟩, hx44⟩
  intro w47 hx48
  have he49 : Ext w w47 := Ext.trans he36 hx48
  have hb14 := Box.ext hb14 hx48
  have hz50 := (hx48).size
  refine TL.done ?_
  refine NX.seq ?_
  refine WC.cond rfl ?_ ?_
  · intro hc51
    replace hF := bif_t hc51 hF
    refine WC.seq ?_
    refine WC.region ?_
    refine TL.yld rfl rfl (yld_assign rfl rfl) ?_
    refine TL.done ?_
    refine NX.seq ?_
    refine WC.ret' ?_
    refine NX.then_r ?_
    obtain rfl := Option.some.inj hF
    exact NX.end (rs := [.tmp 4]) (vs := [.bool false]) rfl ⟨rfl, trivial⟩ ⟨_, rfl, rfl, he49⟩
  · intro hc52
    replace hF := bif_f hc52 hF
    refine WC.skip' ?_
    refine NX.seq ?_
    refine WC.seq ?_
    refine WC.seq ?_
    refine WC.region ?_
    refine TL.yld rfl rfl (yld_fieldAddr rfl fo_45_5 rfl) ?_
    refine TL.yld rfl rfl (yld_load1 5 rfl ag_2 rfl (Box.cells hb14) rfl rfl) ?_
    refine TL.yld rfl rfl (yld_eql rfl rfl rfl) ?_
    refine TL.done ?_
    refine NX.seq ?_
    refine WC.cond rfl ?_ ?_
    · intro hc53
      replace hF := bif_t hc53 hF
      refine WC.seq ?_
      refine WC.region ?_
      refine TL.yld rfl rfl (yld_loadN (us := [.string x3.Name, .int .i64 x3.Place, .int .i64 x3.Period, .int .i64 x3.RiseAt, .int .i64 x3.FallAt, .int .i64 x3.Source, .int .i64 x3.Divide, .bool x3.Invert, .int .i64 x3.EarlyLatency, .int .i64 x3.LateLatency, .int .i64 x3.Uncertainty]) rfl ag_45 rfl (Box.cells hb14) cn_45) ?_
      obtain ⟨r54, hr55, hF⟩ := bsome hF
      refine TL.eff rfl rfl (eff_call rfl gf_73 rfl (W_impl_Clock_isPrimary hr55)) ?_
      rintro _ w56 ⟨rfl, hx57⟩
      have he58 : Ext w w56 := Ext.trans he49 hx57
      have hb14 := Box.ext hb14 hx57
      have hz59 := (hx57).size
      refine TL.yld rfl rfl (yld_assign rfl rfl) ?_
      refine TL.done ?_
      refine NX.seq ?_
      refine WC.ret' ?_
      refine NX.then_r ?_
      obtain rfl := Option.some.inj hF
      exact NX.end (rs := [.tmp 4]) (vs := [.bool r54]) rfl ⟨rfl, trivial⟩ ⟨_, rfl, rfl, he58⟩
    · intro hc60
      replace hF := bif_f hc60 hF
      refine WC.skip' ?_
      refine NX.seq ?_
      refine WC.seq ?_
      refine WC.region ?_
      refine TL.yld rfl rfl (yld_fieldAddr rfl fo_45_5 rfl) ?_
      refine TL.yld rfl rfl (yld_load1 5 rfl ag_2 rfl (Box.cells hb14) rfl rfl) ?_
      refine TL.yld rfl rfl (yld_move rfl rfl) ?_
      refine TL.yld rfl rfl (yld_sub rfl rfl rfl) ?_
      obtain ⟨r61, hr62, hF⟩ := bsome hF
      refine TL.eff rfl rfl (eff_call rfl gf_72 rfl (W_impl_within hr62)) ?_
      rintro _ w63 ⟨rfl, hx64⟩
      have he65 : Ext w w63 := Ext.trans he49 hx64
      have hb14 := Box.ext hb14 hx64
      have hz66 := (hx64).size
      refine TL.yld rfl rfl (yld_move rfl rfl) ?_
      obtain ⟨c67, hb68, hF⟩ := bsome hF
      refine TL.cut 4 [(0, v1), (1, .int .i64 a1_k), (5, .pointer (some ⟨b11, 0, none⟩)), (50, .bool c67)] (fun w' => Ext w63 w') ?_ ?_
      · rcases Bool.eq_false_or_eq_true r61 with hg69 | hg69
        ·
          rw [hg69] at hb68; simp only [cond_true, cond_false] at hb68
          replace hF := hb68
          refine TL.gy (j := 5) (t := 46) rfl rfl rfl hg69 rfl (yld_fieldAddr rfl fo_45_6 rfl) ?_
          refine TL.gy (j := 5) (t := 46) rfl rfl rfl hg69 rfl (yld_load1 6 rfl ag_2 rfl (Box.cells hb14) rfl rfl) ?_
          obtain ⟨r70, hr71, hF⟩ := bsome hF
          refine TL.ge (j := 5) (t := 46) rfl rfl rfl hg69 rfl (eff_call rfl gf_72 rfl (W_impl_within hr71)) ?_
          rintro _ w72 ⟨rfl, hx73⟩
          have he74 : Ext w w72 := Ext.trans he65 hx73
          have hb14 := Box.ext hb14 hx73
          have hz75 := (hx73).size
          obtain rfl := Option.some.inj hF
          refine TL.yld rfl rfl (yld_pick_t rfl rfl hg69 rfl) ?_
          exact TL.nil fun a h => ⟨h.weaken ⟨rfl, rfl, rfl, rfl, trivial⟩, hx73⟩
        ·
          rw [hg69] at hb68; simp only [cond_true, cond_false] at hb68
          refine TL.gnu (j := 5) (t := 46) rfl rfl rfl hg69 rfl ?_
          refine TL.gnu (j := 5) (t := 46) rfl rfl rfl hg69 rfl ?_
          refine TL.gnu (j := 5) (t := 46) rfl rfl rfl hg69 rfl ?_
          obtain rfl := Option.some.inj hb68
          refine TL.yld rfl rfl (yld_pick_f rfl rfl hg69 rfl) ?_
          exact TL.nil fun a h => ⟨h.weaken ⟨rfl, rfl, rfl, rfl, trivial⟩, Ext.refl _⟩
      intro w76 hx77
      have he78 : Ext w w76 := Ext.trans he65 hx77
      have hb14 := Box.ext hb14 hx77
      have hz79 := (hx77).size
      refine TL.yld rfl rfl (yld_move rfl rfl) ?_
      refine TL.cut 4 [(0, v1), (1, .int .i64 a1_k), (5, .pointer (some ⟨b11, 0, none⟩)), (55, .bool ((c67 && ((x3.Period == 0)))))] (fun w' => Ext w76 w') ?_ ?_
      · rcases Bool.eq_false_or_eq_true c67 with hg80 | hg80
        ·
          refine TL.gy (j := 10) (t := 51) rfl rfl rfl hg80 rfl (yld_fieldAddr rfl fo_45_2 rfl) ?_
          refine TL.gy (j := 10) (t := 51) rfl rfl rfl hg80 rfl (yld_load1 2 rfl ag_2 rfl (Box.cells hb14) rfl rfl) ?_
          refine TL.gy (j := 10) (t := 51) rfl rfl rfl hg80 rfl (yld_eql rfl rfl rfl) ?_
          refine TL.yld rfl rfl (yld_and_t rfl rfl hg80 rfl) ?_
          exact TL.nil fun a h => ⟨h.weaken ⟨rfl, rfl, rfl, rfl, trivial⟩, Ext.refl _⟩
        ·
          refine TL.gnu (j := 10) (t := 51) rfl rfl rfl hg80 rfl ?_
          refine TL.gnu (j := 10) (t := 51) rfl rfl rfl hg80 rfl ?_
          refine TL.gnu (j := 10) (t := 51) rfl rfl rfl hg80 rfl ?_
          refine TL.yld rfl rfl (yld_and_f (b2 := (x3.Period == 0)) rfl rfl hg80 rfl) ?_
          exact TL.nil fun a h => ⟨h.weaken ⟨rfl, rfl, rfl, rfl, trivial⟩, Ext.refl _⟩
      intro w81 hx82
      have he83 : Ext w w81 := Ext.trans he78 hx82
      have hb14 := Box.ext hb14 hx82
      have hz84 := (hx82).size
      refine TL.yld rfl rfl (yld_move rfl rfl) ?_
      refine TL.cut 4 [(0, v1), (1, .int .i64 a1_k), (5, .pointer (some ⟨b11, 0, none⟩)), (60, .bool ((((c67 && ((x3.Period == 0)))) && ((x3.RiseAt == 0)))))] (fun w' => Ext w81 w') ?_ ?_
      · rcases Bool.eq_false_or_eq_true ((c67 && ((x3.Period == 0)))) with hg85 | hg85
        ·
          refine TL.gy (j := 15) (t := 56) rfl rfl rfl hg85 rfl (yld_fieldAddr rfl fo_45_3 rfl) ?_
          refine TL.gy (j := 15) (t := 56) rfl rfl rfl hg85 rfl (yld_load1 3 rfl ag_2 rfl (Box.cells hb14) rfl rfl) ?_
          refine TL.gy (j := 15) (t := 56) rfl rfl rfl hg85 rfl (yld_eql rfl rfl rfl) ?_
          refine TL.yld rfl rfl (yld_and_t rfl rfl hg85 rfl) ?_
          exact TL.nil fun a h => ⟨h.weaken ⟨rfl, rfl, rfl, rfl, trivial⟩, Ext.refl _⟩
        ·
          refine TL.gnu (j := 15) (t := 56) rfl rfl rfl hg85 rfl ?_
          refine TL.gnu (j := 15) (t := 56) rfl rfl rfl hg85 rfl ?_
          refine TL.gnu (j := 15) (t := 56) rfl rfl rfl hg85 rfl ?_
          refine TL.yld rfl rfl (yld_and_f (b2 := (x3.RiseAt == 0)) rfl rfl hg85 rfl) ?_
          exact TL.nil fun a h => ⟨h.weaken ⟨rfl, rfl, rfl, rfl, trivial⟩, Ext.refl _⟩
      intro w86 hx87
      have he88 : Ext w w86 := Ext.trans he83 hx87
      have hb14 := Box.ext hb14 hx87
      have hz89 := (hx87).size
      refine TL.yld rfl rfl (yld_move rfl rfl) ?_
      refine TL.cut 4 [(0, v1), (1, .int .i64 a1_k), (65, .bool ((((((c67 && ((x3.Period == 0)))) && ((x3.RiseAt == 0)))) && ((x3.FallAt == 0)))))] (fun w' => Ext w86 w') ?_ ?_
      · rcases Bool.eq_false_or_eq_true ((((c67 && ((x3.Period == 0)))) && ((x3.RiseAt == 0)))) with hg90 | hg90
        ·
          refine TL.gy (j := 20) (t := 61) rfl rfl rfl hg90 rfl (yld_fieldAddr rfl fo_45_4 rfl) ?_
          refine TL.gy (j := 20) (t := 61) rfl rfl rfl hg90 rfl (yld_load1 4 rfl ag_2 rfl (Box.cells hb14) rfl rfl) ?_
          refine TL.gy (j := 20) (t := 61) rfl rfl rfl hg90 rfl (yld_eql rfl rfl rfl) ?_
          refine TL.yld rfl rfl (yld_and_t rfl rfl hg90 rfl) ?_
          exact TL.nil fun a h => ⟨h.weaken ⟨rfl, rfl, rfl, trivial⟩, Ext.refl _⟩
        ·
          refine TL.gnu (j := 20) (t := 61) rfl rfl rfl hg90 rfl ?_
          refine TL.gnu (j := 20) (t := 61) rfl rfl rfl hg90 rfl ?_
          refine TL.gnu (j := 20) (t := 61) rfl rfl rfl hg90 rfl ?_
          refine TL.yld rfl rfl (yld_and_f (b2 := (x3.FallAt == 0)) rfl rfl hg90 rfl) ?_
          exact TL.nil fun a h => ⟨h.weaken ⟨rfl, rfl, rfl, trivial⟩, Ext.refl _⟩
      intro w91 hx92
      have he93 : Ext w w91 := Ext.trans he88 hx92
      have hb14 := Box.ext hb14 hx92
      have hz94 := (hx92).size
      refine TL.yld rfl rfl (yld_move rfl rfl) ?_
      obtain ⟨c95, hb96, hF⟩ := bsome hF
      refine TL.cut 6 [(72, .bool c95)] (fun w' => Ext w91 w') ?_ ?_
      · rcases Bool.eq_false_or_eq_true ((((((c67 && ((x3.Period == 0)))) && ((x3.RiseAt == 0)))) && ((x3.FallAt == 0)))) with hg97 | hg97
        ·
          rw [hg97] at hb96; simp only [cond_true, cond_false] at hb96
          replace hF := hb96
          refine TL.gy (j := 25) (t := 66) rfl rfl rfl hg97 rfl (yld_move rfl rfl) ?_
          refine TL.gy (j := 25) (t := 66) rfl rfl rfl hg97 rfl (yld_move rfl rfl) ?_
          obtain ⟨r98, hr99, hF⟩ := bsome hF
          refine TL.ge (j := 25) (t := 66) rfl rfl rfl hg97 rfl (eff_call rfl gf_55 rfl (W_impl_waveOf hr99 ((slRep.old ha2 he93 (Nat.le_refl _)).wide (Nat.le_refl _) (he93).size))) ?_
          rintro _ w100 ⟨rfl, hx101⟩
          have he102 : Ext w w100 := Ext.trans he93 hx101
          have hb14 := Box.ext hb14 hx101
          have hz103 := (hx101).size
          refine TL.gy (j := 25) (t := 66) rfl rfl rfl hg97 rfl (yld_field1 rfl ft_71_0 ag_2 rfl rfl) ?_
          refine TL.gy (j := 25) (t := 66) rfl rfl rfl hg97 rfl (yld_leq rfl rfl rfl) ?_
          obtain rfl := Option.some.inj hF
          refine TL.yld rfl rfl (yld_pick_t rfl rfl hg97 rfl) ?_
          exact TL.nil fun a h => ⟨h.weaken ⟨rfl, trivial⟩, hx101⟩
        ·
          rw [hg97] at hb96; simp only [cond_true, cond_false] at hb96
          refine TL.gnu (j := 25) (t := 66) rfl rfl rfl hg97 rfl ?_
          refine TL.gnu (j := 25) (t := 66) rfl rfl rfl hg97 rfl ?_
          refine TL.gnu (j := 25) (t := 66) rfl rfl rfl hg97 rfl ?_
          refine TL.gnu (j := 25) (t := 66) rfl rfl rfl hg97 rfl ?_
          refine TL.gnu (j := 25) (t := 66) rfl rfl rfl hg97 rfl ?_
          obtain rfl := Option.some.inj hb96
          refine TL.yld rfl rfl (yld_pick_f rfl rfl hg97 rfl) ?_
          exact TL.nil fun a h => ⟨h.weaken ⟨rfl, trivial⟩, Ext.refl _⟩
      intro w104 hx105
      have he106 : Ext w w104 := Ext.trans he93 hx105
      have hb14 := Box.ext hb14 hx105
      have hz107 := (hx105).size
      refine TL.yld rfl rfl (yld_assign rfl rfl) ?_
      refine TL.done ?_
      refine NX.seq ?_
      refine WC.ret' ?_
      obtain rfl := Option.some.inj hF
      exact NX.end (rs := [.tmp 4]) (vs := [.bool c95]) rfl ⟨rfl, trivial⟩ ⟨_, rfl, rfl, he106⟩

-- strings.Trim, by the shelf's contract
def F_strings_Trim (n : Nat) (a0_s : ByteArray) (a1_cutset : ByteArray) : Option ByteArray := if a0_s.size ≤ 9223372036854775807 ∧ a1_cutset.size < 4294967281 ∧ (a1_cutset.data.toList.all fun b => decide (b.toNat < 128)) = true then some ⟨(Lib.trimS a0_s.data.toList a1_cutset.data.toList).toArray⟩ else none
theorem W_strings_Trim {n : Nat} {a0_s : ByteArray} {a1_cutset : ByteArray} {r : ByteArray} {w : World} (hF : F_strings_Trim n a0_s a1_cutset = some r) :
    Calls Tryd.prog 82 [.string a0_s, .string a1_cutset].toArray w (Ret fun u w2 => u = .string r ∧ Ext w w2) := by
  unfold F_strings_Trim at hF
  split at hF
  · rename_i h
    obtain rfl := Option.some.inj hF
    refine (Tryd.strings_Trim_ascii a0_s a1_cutset w h.1 h.2.1 (fun j b hb => of_decide_eq_true (List.all_eq_true.1 h.2.2 b (List.mem_of_getElem? hb)))).mono ?_
    rintro e w' ⟨rfl, hB⟩
    exact ⟨_, rfl, rfl, hB⟩
  · cases hF

-- strings.IndexByte, by the shelf's contract
def F_strings_IndexByte (n : Nat) (a0_s : ByteArray) (a1_c : Int) : Option Int := some (Lib.indexByte a0_s.data.toList a1_c.toNat.toUInt8)
theorem W_strings_IndexByte {n : Nat} {a0_s : ByteArray} {a1_c : Int} {r : Int} {w : World} (hF : F_strings_IndexByte n a0_s a1_c = some r) :
    Calls Tryd.prog 83 [.string a0_s, .int .u8 a1_c].toArray w (Ret fun u w2 => u = .int .i64 r ∧ Ext w w2) := by
  obtain rfl := Option.some.inj hF
  refine (Tryd.strings_IndexByte a0_s a1_c w).mono ?_
  rintro e w' ⟨rfl, rfl⟩
  exact ⟨_, rfl, rfl, Ext.refl _⟩

-- loop.example/g00861/impl.isName
def F_impl_isName (n : Nat) (a0_s : ByteArray) : Option Bool := (Option.bind (F_impl_within n ((a0_s.size : Int)) 1 8) fun r1 => (Option.bind (bif r1 then (Option.bind (F_strings_Trim n a0_s ((ByteArray.mk #[97, 98, 99, 100, 101, 102, 103, 104, 105, 106, 107, 108, 109, 110, 111, 112, 113, 114, 115, 116, 117, 118, 119, 120, 121, 122, 48, 49, 50, 51, 52, 53, 54, 55, 56, 57]))) fun r7 => (some ((r7.toList == ((ByteArray.mk #[])).toList)))) else (some false)) fun c7 => (Option.bind (bif c7 then (Option.bind (getB a0_s 0) fun x20 => (Option.bind (F_strings_IndexByte n ((ByteArray.mk #[97, 98, 99, 100, 101, 102, 103, 104, 105, 106, 107, 108, 109, 110, 111, 112, 113, 114, 115, 116, 117, 118, 119, 120, 121, 122])) x20) fun r22 => (some (decide (r22 ≥ 0))))) else (some false)) fun c20 => (some c20))))
set_option maxHeartbeats 40000000 in
theorem W_impl_isName {n : Nat} {a0_s : ByteArray} {r : Bool} {w : World} (hF : F_impl_isName n a0_s = some r) :
    Calls Tryd.prog 74 [.string a0_s].toArray w (Ret fun u w2 => u = .bool r ∧ Ext w w2) := by
  refine calls_of Tryd.func74 rfl Tryd.ntmps74 ?_
  have he0 : Ext w w := Ext.refl w
  unfold F_impl_isName at hF
  refine WC.seq ?_
  refine WC.region ?_
  refine TL.yld rfl rfl (yld_assign rfl rfl) ?_
  refine TL.done ?_
  refine NX.seq ?_
  refine WC.seq ?_
  refine WC.region ?_
  refine TL.yld rfl rfl (yld_move rfl rfl) ?_
  refine TL.yld rfl rfl (yld_lens rfl Tryd.underlying9 rfl) ?_
  obtain ⟨r1, hr2, hF⟩ := bsome hF
  refine TL.eff rfl rfl (eff_call rfl gf_72 rfl (W_impl_within hr2)) ?_
  rintro _ w3 ⟨rfl, hx4⟩
  have he5 : Ext w w3 := Ext.trans he0 hx4
  have hz6 := (hx4).size
  refine TL.yld rfl rfl (yld_move rfl rfl) ?_
  obtain ⟨c7, hb8, hF⟩ := bsome hF
  refine TL.cut 4 [(0, .string a0_s), (10, .bool c7)] (fun w' => Ext w3 w') ?_ ?_
  · rcases Bool.eq_false_or_eq_true r1 with hg9 | hg9
    ·
      rw [hg9] at hb8; simp only [cond_true, cond_false] at hb8
      replace hF := hb8
      refine TL.gy (j := 3) (t := 6) rfl rfl rfl hg9 rfl (yld_move rfl rfl) ?_
      obtain ⟨r10, hr11, hF⟩ := bsome hF
      refine TL.ge (j := 3) (t := 6) rfl rfl rfl hg9 rfl (eff_call rfl gf_82 rfl (W_strings_Trim hr11)) ?_
      rintro _ w12 ⟨rfl, hx13⟩
      have he14 : Ext w w12 := Ext.trans he5 hx13
      have hz15 := (hx13).size
      refine TL.gy (j := 3) (t := 6) rfl rfl rfl hg9 rfl (yld_eqs rfl rfl rfl) ?_
      obtain rfl := Option.some.inj hF
      refine TL.yld rfl rfl (yld_pick_t rfl rfl hg9 rfl) ?_
      exact TL.nil fun a h => ⟨h.weaken ⟨rfl, rfl, trivial⟩, hx13⟩
    ·
      rw [hg9] at hb8; simp only [cond_true, cond_false] at hb8
      refine TL.gnu (j := 3) (t := 6) rfl rfl rfl hg9 rfl ?_
      refine TL.gnu (j := 3) (t := 6) rfl rfl rfl hg9 rfl ?_
      refine TL.gnu (j := 3) (t := 6) rfl rfl rfl hg9 rfl ?_
      obtain rfl := Option.some.inj hb8
      refine TL.yld rfl rfl (yld_pick_f rfl rfl hg9 rfl) ?_
      exact TL.nil fun a h => ⟨h.weaken ⟨rfl, rfl, trivial⟩, Ext.refl _⟩
  intro w16 hx17
  have he18 : Ext w w16 := Ext.trans he5 hx17
  have hz19 := (hx17).size
  refine TL.yld rfl rfl (yld_move rfl rfl) ?_
  obtain ⟨c20, hb21, hF⟩ := bsome hF
  refine TL.cut 5 [(16, .bool c20)] (fun w' => Ext w16 w') ?_ ?_
  · rcases Bool.eq_false_or_eq_true c7 with hg22 | hg22
    ·
      rw [hg22] at hb21; simp only [cond_true, cond_false] at hb21
      replace hF := hb21
      refine TL.gy (j := 8) (t := 11) rfl rfl rfl hg22 rfl (yld_move rfl rfl) ?_
      obtain ⟨x23, hy24, hF⟩ := bsome hF
      refine TL.gy (j := 8) (t := 11) rfl rfl rfl hg22 rfl (yld_indexStr rfl Tryd.underlying9 rfl rfl hy24) ?_
      obtain ⟨r25, hr26, hF⟩ := bsome hF
      refine TL.ge (j := 8) (t := 11) rfl rfl rfl hg22 rfl (eff_call rfl gf_83 rfl (W_strings_IndexByte hr26)) ?_
      rintro _ w27 ⟨rfl, hx28⟩
      have he29 : Ext w w27 := Ext.trans he18 hx28
      have hz30 := (hx28).size
      refine TL.gy (j := 8) (t := 11) rfl rfl rfl hg22 rfl (yld_geq rfl rfl rfl) ?_
      obtain rfl := Option.some.inj hF
      refine TL.yld rfl rfl (yld_pick_t rfl rfl hg22 rfl) ?_
      exact TL.nil fun a h => ⟨h.weaken ⟨rfl, trivial⟩, hx28⟩
    ·
      rw [hg22] at hb21; simp only [cond_true, cond_false] at hb21
      refine TL.gnu (j := 8) (t := 11) rfl rfl rfl hg22 rfl ?_
      refine TL.gnu (j := 8) (t := 11) rfl rfl rfl hg22 rfl ?_
      refine TL.gnu (j := 8) (t := 11) rfl rfl rfl hg22 rfl ?_
      refine TL.gnu (j := 8) (t := 11) rfl rfl rfl hg22 rfl ?_
      obtain rfl := Option.some.inj hb21
      refine TL.yld rfl rfl (yld_pick_f rfl rfl hg22 rfl) ?_
      exact TL.nil fun a h => ⟨h.weaken ⟨rfl, trivial⟩, Ext.refl _⟩
  intro w31 hx32
  have he33 : Ext w w31 := Ext.trans he18 hx32
  have hz34 := (hx32).size
  refine TL.yld rfl rfl (yld_assign rfl rfl) ?_
  refine TL.done ?_
  refine NX.seq ?_
  refine WC.ret' ?_
  obtain rfl := Option.some.inj hF
  exact NX.end (rs := [.tmp 2]) (vs := [.bool c20]) rfl ⟨rfl, trivial⟩ ⟨_, rfl, rfl, he33⟩

-- slices.Index[[]string,string]
def F_slices_Index_string_string_L1 (a0_s : List ByteArray) (a1_v : ByteArray) (k0 : Int → Option Int) : Nat → Int → Option Int
  | 0 => fun _ => none
  | m + 1 => fun i5 => (bif decide (i5 < (a0_s.length : Int)) then (Option.bind (getI a0_s i5) fun x7 => (bif (a1_v.toList == x7.toList) then (some i5) else (F_slices_Index_string_string_L1 a0_s a1_v k0 m (IntKind.wrap IntKind.i64 (i5 + 1))))) else (k0 i5))
theorem F_slices_Index_string_string_L1_z (a0_s : List ByteArray) (a1_v : ByteArray) (k0 : Int → Option Int) (i5 : Int) : F_slices_Index_string_string_L1 a0_s a1_v k0 0 i5 = none := rfl
theorem F_slices_Index_string_string_L1_s (m : Nat) (a0_s : List ByteArray) (a1_v : ByteArray) (k0 : Int → Option Int) (i5 : Int) : F_slices_Index_string_string_L1 a0_s a1_v k0 (m + 1) i5 = (bif decide (i5 < (a0_s.length : Int)) then (Option.bind (getI a0_s i5) fun x7 => (bif (a1_v.toList == x7.toList) then (some i5) else (F_slices_Index_string_string_L1 a0_s a1_v k0 m (IntKind.wrap IntKind.i64 (i5 + 1))))) else (k0 i5)) := rfl

def F_slices_Index_string_string (n : Nat) (a0_s : List ByteArray) (a1_v : ByteArray) : Option Int := (F_slices_Index_string_string_L1 a0_s a1_v (fun i5 => (some (-1))) n 0)
set_option maxHeartbeats 40000000 in
theorem W_slices_Index_string_string {n : Nat} {a0_s : List ByteArray} {a1_v : ByteArray} {r : Int} {w : World} {v1 : Value} (hF : F_slices_Index_string_string n a0_s a1_v = some r) (ha2 : slRep cStr w (Iv 0 w.heap.size) a0_s v1) :
    Calls Tryd.prog 84 [v1, .string a1_v].toArray w (Ret fun u w2 => u = .int .i64 r ∧ Ext w w2) := by
  refine calls_of Tryd.func84 rfl Tryd.ntmps84 ?_
  have he0 : Ext w w := Ext.refl w
  unfold F_slices_Index_string_string at hF
  refine WC.seq ?_
  refine WC.region ?_
  refine TL.yld rfl rfl (yld_assign rfl rfl) ?_
  refine TL.done ?_
  refine NX.seq ?_
  refine WC.seq ?_
  refine WC.seq ?_
  refine WC.region ?_
  refine TL.yld rfl rfl (yld_move rfl rfl) ?_
  refine TL.yld rfl rfl (ye_len (c := cStr) rfl Tryd.underlying63 rfl (slRep.old ha2 he0 (Nat.le_refl _))) ?_
  refine TL.yld rfl rfl (yld_move rfl rfl) ?_
  refine TL.done ?_
  refine NX.seq ?_
  refine WC.block ?_
  refine WC.loop (fun m6 a wl => ∃ (i5 : Int), Kn 19 [(0, v1), (1, .string a1_v), (7, .int .i64 ((a0_s.length : Int))), (8, .int .i64 i5)] a ∧ Ext w wl ∧ w.heap.size ≤ wl.heap.size ∧ F_slices_Index_string_string_L1 a0_s a1_v (fun i5 => (some (-1))) m6 i5 = some r) n ?_ ?_
  · intro a hK; exact ⟨0, hK.weaken ⟨rfl, rfl, rfl, rfl, trivial⟩, he0, Nat.le_refl _, hF⟩
  · rintro m6 a w3 ⟨i5, hK, he4, hz7, hF⟩
    revert hK; revert a; refine (?_ : WC _ _ _ _ _ _)
    cases m6 with
    | zero => rw [F_slices_Index_string_string_L1_z] at hF; cases hF
    | succ m6 =>
      rw [F_slices_Index_string_string_L1_s] at hF
      refine WC.seq ?_
      refine WC.region ?_
      refine TL.yld rfl rfl (yld_lss rfl rfl rfl) ?_
      refine TL.done ?_
      refine NX.seq ?_
      refine WC.seq ?_
      refine WC.cond rfl ?_ ?_
      · intro hc8
        replace hF := bif_t hc8 hF
        refine WC.skip' ?_
        refine NX.seq ?_
        refine WC.seq ?_
        refine WC.block ?_
        refine WC.seq ?_
        refine WC.region ?_
        refine TL.yld rfl rfl (yld_move rfl rfl) ?_
        refine TL.yld rfl rfl (yld_assign rfl rfl) ?_
        refine TL.done ?_
        refine NX.seq ?_
        refine WC.seq ?_
        refine WC.region ?_
        refine TL.yld rfl rfl (yld_move rfl rfl) ?_
        refine TL.yld rfl rfl (yld_move rfl rfl) ?_
        refine TL.yld rfl rfl (yld_move rfl rfl) ?_
        obtain ⟨x9, hy10, hF⟩ := bsome hF
        refine TL.ye rfl rfl (ye_index (c := cStr) rfl Tryd.underlying63 cn_9 rfl rfl (slRep.old ha2 he4 (Nat.le_refl _)) hy10) ?_
        rintro _ ⟨b11, o12, us13, rfl, hib16, hr14, hcl15⟩
        have hib16 : 0 ≤ b11 ∧ b11 < w.heap.size := ⟨hib16.1, by have := hib16.2; omega⟩
        obtain rfl := hr14
        refine TL.yld rfl rfl (yld_load1 0 rfl ag_9 rfl hcl15 rfl rfl) ?_
        refine TL.yld rfl rfl (yld_eqs rfl rfl rfl) ?_
        refine TL.done ?_
        refine NX.seq ?_
        refine WC.cond rfl ?_ ?_
        · intro hc17
          replace hF := bif_t hc17 hF
          refine WC.seq ?_
          refine WC.region ?_
          refine TL.yld rfl rfl (yld_move rfl rfl) ?_
          refine TL.yld rfl rfl (yld_assign rfl rfl) ?_
          refine TL.done ?_
          refine NX.seq ?_
          refine WC.ret' ?_
          refine NX.blk_r ?_
          refine NX.then_r ?_
          refine NX.then_r ?_
          refine NX.blk_r ?_
          refine NX.then_r ?_
          obtain rfl := Option.some.inj hF
          exact NX.end (rs := [.tmp 4]) (vs := [.int .i64 i5]) rfl ⟨rfl, trivial⟩ ⟨_, rfl, rfl, he4⟩
        · intro hc18
          replace hF := bif_f hc18 hF
          refine WC.skip' ?_
          refine NX.blk_n ?_
          refine NX.seq ?_
          refine WC.region ?_
          refine TL.yld rfl rfl (yld_add rfl rfl rfl) ?_
          refine TL.yld rfl rfl (yld_move rfl rfl) ?_
          refine TL.done ?_
          refine NX.then_n ?_
          intro a hK; exact ⟨m6, Nat.lt_succ_self m6, (IntKind.wrap IntKind.i64 (i5 + 1)), hK.weaken ⟨rfl, rfl, rfl, rfl, trivial⟩, he4, (by omega), hF⟩
      · intro hc19
        replace hF := bif_f hc19 hF
        refine WC.exit' ?_
        refine NX.then_e ?_
        refine NX.then_e ?_
        refine NX.blk_hit ?_
        refine NX.seq ?_
        refine WC.seq ?_
        refine WC.region ?_
        refine TL.yld rfl rfl (yld_assign rfl rfl) ?_
        refine TL.done ?_
        refine NX.seq ?_
        refine WC.ret' ?_
        obtain rfl := Option.some.inj hF
        exact NX.end (rs := [.tmp 4]) (vs := [.int .i64 (-1)]) rfl ⟨rfl, trivial⟩ ⟨_, rfl, rfl, he4⟩

-- slices.Contains[[]string,string]
def F_slices_Contains_string_string (n : Nat) (a0_s : List ByteArray) (a1_v : ByteArray) : Option Bool := (Option.bind (F_slices_Index_string_string n a0_s a1_v) fun r3 => (some (decide (r3 ≥ 0))))
set_option maxHeartbeats 40000000 in
theorem W_slices_Contains_string_string {n : Nat} {a0_s : List ByteArray} {a1_v : ByteArray} {r : Bool} {w : World} {v1 : Value} (hF : F_slices_Contains_string_string n a0_s a1_v = some r) (ha2 : slRep cStr w (Iv 0 w.heap.size) a0_s v1) :
    Calls Tryd.prog 75 [v1, .string a1_v].toArray w (Ret fun u w2 => u = .bool r ∧ Ext w w2) := by
  refine calls_of Tryd.func75 rfl Tryd.ntmps75 ?_
  have he0 : Ext w w := Ext.refl w
  unfold F_slices_Contains_string_string at hF
  refine WC.seq ?_
  refine WC.region ?_
  refine TL.yld rfl rfl (yld_assign rfl rfl) ?_
  refine TL.done ?_
  refine NX.seq ?_
  refine WC.seq ?_
  refine WC.region ?_
  refine TL.yld rfl rfl (yld_move rfl rfl) ?_
  refine TL.yld rfl rfl (yld_move rfl rfl) ?_
  obtain ⟨r3, hr4, hF⟩ := bsome hF
  refine TL.eff rfl rfl (eff_call rfl gf_84 rfl (W_slices_Index_string_string hr4 ((slRep.old ha2 he0 (Nat.le_refl _)).wide (Nat.le_refl _) (he0).size))) ?_
  rintro _ w5 ⟨rfl, hx6⟩
  have he7 : Ext w w5 := Ext.trans he0 hx6
  have hz8 := (hx6).size
  refine TL.yld rfl rfl (yld_geq rfl rfl rfl) ?_
  refine TL.yld rfl rfl (yld_assign rfl rfl) ?_
  refine TL.done ?_
  refine NX.seq ?_
  refine WC.ret' ?_
  obtain rfl := Option.some.inj hF
  exact NX.end (rs := [.tmp 4]) (vs := [.bool (decide (r3 ≥ 0))]) rfl ⟨rfl, trivial⟩ ⟨_, rfl, rfl, he7⟩

-- loop.example/g00861/impl.areNames
def F_impl_areNames_L1 (n : Nat) (a0_list : List ByteArray) (k0 : Int → Option Bool) : Nat → Int → Option Bool
  | 0 => fun _ => none
  | m + 1 => fun i5 => (bif decide (i5 < (a0_list.length : Int)) then (Option.bind (getI a0_list i5) fun x7 => (Option.bind (F_impl_isName n x7) fun r15 => (Option.bind (bif (!r15) then (some true) else (Option.bind (subL a0_list 0 i5) fun z21 => (Option.bind (F_slices_Contains_string_string n z21 x7) fun r25 => (some r25)))) fun c21 => (bif c21 then (some false) else (F_impl_areNames_L1 n a0_list k0 m (IntKind.wrap IntKind.i64 (i5 + 1))))))) else (k0 i5))
theorem F_impl_areNames_L1_z (n : Nat) (a0_list : List ByteArray) (k0 : Int → Option Bool) (i5 : Int) : F_impl_areNames_L1 n a0_list k0 0 i5 = none := rfl
theorem F_impl_areNames_L1_s (m : Nat) (n : Nat) (a0_list : List ByteArray) (k0 : Int → Option Bool) (i5 : Int) : F_impl_areNames_L1 n a0_list k0 (m + 1) i5 = (bif decide (i5 < (a0_list.length : Int)) then (Option.bind (getI a0_list i5) fun x7 => (Option.bind (F_impl_isName n x7) fun r15 => (Option.bind (bif (!r15) then (some true) else (Option.bind (subL a0_list 0 i5) fun z21 => (Option.bind (F_slices_Contains_string_string n z21 x7) fun r25 => (some r25)))) fun c21 => (bif c21 then (some false) else (F_impl_areNames_L1 n a0_list k0 m (IntKind.wrap IntKind.i64 (i5 + 1))))))) else (k0 i5)) := rfl

def F_impl_areNames (n : Nat) (a0_list : List ByteArray) : Option Bool := (F_impl_areNames_L1 n a0_list (fun i5 => (some true)) n 0)
set_option maxHeartbeats 40000000 in
theorem W_impl_areNames {n : Nat} {a0_list : List ByteArray} {r : Bool} {w : World} {v1 : Value} (hF : F_impl_areNames n a0_list = some r) (ha2 : slRep cStr w (Iv 0 w.heap.size) a0_list v1) :
    Calls Tryd.prog 51 [v1].toArray w (Ret fun u w2 => u = .bool r ∧ Ext w w2) := by
  refine calls_of Tryd.func51 rfl Tryd.ntmps51 ?_
  have he0 : Ext w w := Ext.refl w
  unfold F_impl_areNames at hF
  refine WC.seq ?_
  refine WC.region ?_
  refine TL.yld rfl rfl (yld_assign rfl rfl) ?_
  refine TL.done ?_
  refine NX.seq ?_
  refine WC.seq ?_
  refine WC.seq ?_
  refine WC.region ?_
  refine TL.yld rfl rfl (yld_move rfl rfl) ?_
  refine TL.yld rfl rfl (ye_len (c := cStr) rfl Tryd.underlying63 rfl (slRep.old ha2 he0 (Nat.le_refl _))) ?_
  refine TL.yld rfl rfl (yld_move rfl rfl) ?_
  refine TL.done ?_
  refine NX.seq ?_
  refine WC.block ?_
  refine WC.loop (fun m6 a wl => ∃ (i5 : Int), Kn 23 [(0, v1), (5, v1), (6, .int .i64 ((a0_list.length : Int))), (7, .int .i64 i5)] a ∧ Ext w wl ∧ w.heap.size ≤ wl.heap.size ∧ F_impl_areNames_L1 n a0_list (fun i5 => (some true)) m6 i5 = some r) n ?_ ?_
  · intro a hK; exact ⟨0, hK.weaken ⟨rfl, rfl, rfl, rfl, trivial⟩, he0, Nat.le_refl _, hF⟩
  · rintro m6 a w3 ⟨i5, hK, he4, hz7, hF⟩
    revert hK; revert a; refine (?_ : WC _ _ _ _ _ _)
    cases m6 with
    | zero => rw [F_impl_areNames_L1_z] at hF; cases hF
    | succ m6 =>
      rw [F_impl_areNames_L1_s] at hF
      refine WC.seq ?_
      refine WC.region ?_
      refine TL.yld rfl rfl (yld_lss rfl rfl rfl) ?_
      refine TL.done ?_
      refine NX.seq ?_
      refine WC.seq ?_
      refine WC.cond rfl ?_ ?_
      · intro hc8
        replace hF := bif_t hc8 hF
        refine WC.skip' ?_
        refine NX.seq ?_
        refine WC.seq ?_
        refine WC.block ?_
        refine WC.seq ?_
        refine WC.region ?_
        refine TL.yld rfl rfl (yld_move rfl rfl) ?_
        obtain ⟨x9, hy10, hF⟩ := bsome hF
        refine TL.ye rfl rfl (ye_index (c := cStr) rfl Tryd.underlying63 cn_9 rfl rfl (slRep.old ha2 he4 (Nat.le_refl _)) hy10) ?_
        rintro _ ⟨b11, o12, us13, rfl, hib16, hr14, hcl15⟩
        have hib16 : 0 ≤ b11 ∧ b11 < w.heap.size := ⟨hib16.1, by have := hib16.2; omega⟩
        obtain rfl := hr14
        refine TL.yld rfl rfl (yld_load1 0 rfl ag_9 rfl hcl15 rfl rfl) ?_
        refine TL.yld rfl rfl (yld_assign rfl rfl) ?_
        refine TL.yld rfl rfl (yld_assign rfl rfl) ?_
        refine TL.done ?_
        refine NX.seq ?_
        refine WC.seq ?_
        refine WC.region ?_
        refine TL.yld rfl rfl (yld_move rfl rfl) ?_
        obtain ⟨r17, hr18, hF⟩ := bsome hF
        refine TL.eff rfl rfl (eff_call rfl gf_74 rfl (W_impl_isName hr18)) ?_
        rintro _ w19 ⟨rfl, hx20⟩
        have he21 : Ext w w19 := Ext.trans he4 hx20
        have hz22 := (hx20).size
        refine TL.yld rfl rfl (yld_not rfl rfl) ?_
        refine TL.yld rfl rfl (yld_move rfl rfl) ?_
        obtain ⟨c23, hb24, hF⟩ := bsome hF
        refine TL.cut 6 [(0, v1), (5, v1), (6, .int .i64 ((a0_list.length : Int))), (7, .int .i64 i5), (21, .bool c23)] (fun w' => Ext w19 w') ?_ ?_
        · rcases Bool.eq_false_or_eq_true (!r17) with hg25 | hg25
          ·
            rw [hg25] at hb24; simp only [cond_true, cond_false] at hb24
            refine TL.gnu (j := 3) (t := 15) rfl rfl rfl hg25 rfl ?_
            refine TL.gnu (j := 3) (t := 15) rfl rfl rfl hg25 rfl ?_
            refine TL.gnu (j := 3) (t := 15) rfl rfl rfl hg25 rfl ?_
            refine TL.gnu (j := 3) (t := 15) rfl rfl rfl hg25 rfl ?_
            refine TL.gnu (j := 3) (t := 15) rfl rfl rfl hg25 rfl ?_
            obtain rfl := Option.some.inj hb24
            refine TL.yld rfl rfl (yld_pick_t rfl rfl hg25 rfl) ?_
            exact TL.nil fun a h => ⟨h.weaken ⟨rfl, rfl, rfl, rfl, rfl, trivial⟩, Ext.refl _⟩
          ·
            rw [hg25] at hb24; simp only [cond_true, cond_false] at hb24
            replace hF := hb24
            refine TL.gy (j := 3) (t := 15) rfl rfl rfl hg25 rfl (yld_move rfl rfl) ?_
            refine TL.gy (j := 3) (t := 15) rfl rfl rfl hg25 rfl (yld_move rfl rfl) ?_
            obtain ⟨z26, hz27, hF⟩ := bsome hF
            refine TL.yeg (j := 3) (t := 15) rfl rfl rfl hg25 rfl (ye_slice_to (c := cStr) rfl Tryd.underlying63 cn_9 rfl rfl (slRep.old ha2 he21 (Nat.le_refl _)) hz27) ?_
            rintro v28 hs29
            refine TL.gy (j := 3) (t := 15) rfl rfl rfl hg25 rfl (yld_move rfl rfl) ?_
            obtain ⟨r30, hr31, hF⟩ := bsome hF
            refine TL.ge (j := 3) (t := 15) rfl rfl rfl hg25 rfl (eff_call rfl gf_75 rfl (W_slices_Contains_string_string hr31 (hs29.wide (Nat.zero_le _) (by omega)))) ?_
            rintro _ w32 ⟨rfl, hx33⟩
            have he34 : Ext w w32 := Ext.trans he21 hx33
            have hs29 := slRep.old hs29 hx33 (by omega)
            have hz35 := (hx33).size
            obtain rfl := Option.some.inj hF
            refine TL.yld rfl rfl (yld_pick_f rfl rfl hg25 rfl) ?_
            exact TL.nil fun a h => ⟨h.weaken ⟨rfl, rfl, rfl, rfl, rfl, trivial⟩, hx33⟩
        intro w36 hx37
        have he38 : Ext w w36 := Ext.trans he21 hx37
        have hz39 := (hx37).size
        refine TL.done ?_
        refine NX.seq ?_
        refine WC.cond rfl ?_ ?_
        · intro hc40
          replace hF := bif_t hc40 hF
          refine WC.seq ?_
          refine WC.region ?_
          refine TL.yld rfl rfl (yld_assign rfl rfl) ?_
          refine TL.done ?_
          refine NX.seq ?_
          refine WC.ret' ?_
          refine NX.blk_r ?_
          refine NX.then_r ?_
          refine NX.then_r ?_
          refine NX.blk_r ?_
          refine NX.then_r ?_
          obtain rfl := Option.some.inj hF
          exact NX.end (rs := [.tmp 2]) (vs := [.bool false]) rfl ⟨rfl, trivial⟩ ⟨_, rfl, rfl, he38⟩
        · intro hc41
          replace hF := bif_f hc41 hF
          refine WC.skip' ?_
          refine NX.blk_n ?_
          refine NX.seq ?_
          refine WC.region ?_
          refine TL.yld rfl rfl (yld_add rfl rfl rfl) ?_
          refine TL.yld rfl rfl (yld_move rfl rfl) ?_
          refine TL.done ?_
          refine NX.then_n ?_
          intro a hK; exact ⟨m6, Nat.lt_succ_self m6, (IntKind.wrap IntKind.i64 (i5 + 1)), hK.weaken ⟨rfl, rfl, rfl, rfl, trivial⟩, he38, (by omega), hF⟩
      · intro hc42
        replace hF := bif_f hc42 hF
        refine WC.exit' ?_
        refine NX.then_e ?_
        refine NX.then_e ?_
        refine NX.blk_hit ?_
        refine NX.seq ?_
        refine WC.seq ?_
        refine WC.region ?_
        refine TL.yld rfl rfl (yld_assign rfl rfl) ?_
        refine TL.done ?_
        refine NX.seq ?_
        refine WC.ret' ?_
        obtain rfl := Option.some.inj hF
        exact NX.end (rs := [.tmp 2]) (vs := [.bool true]) rfl ⟨rfl, trivial⟩ ⟨_, rfl, rfl, he4⟩

-- loop.example/g00861/impl.IsClocks
def F_impl_IsClocks_L1 (n : Nat) (a0_list : List S_Clock) (k0 : (List ByteArray) → Int → Option Bool) : Nat → (List ByteArray) → Int → Option Bool
  | 0 => fun _ _ => none
  | m + 1 => fun l10 i14 => (bif decide (i14 < (a0_list.length : Int)) then (Option.bind (getI a0_list i14) fun x16 => (Option.bind (F_impl_isClock n a0_list i14) fun r36 => (bif (!r36) then (some false) else (Option.bind (appN l10 [x16.Name] 16) fun z57 => (F_impl_IsClocks_L1 n a0_list k0 m z57 (IntKind.wrap IntKind.i64 (i14 + 1))))))) else (k0 l10 i14))
theorem F_impl_IsClocks_L1_z (n : Nat) (a0_list : List S_Clock) (k0 : (List ByteArray) → Int → Option Bool) (l10 : List ByteArray) (i14 : Int) : F_impl_IsClocks_L1 n a0_list k0 0 l10 i14 = none := rfl
theorem F_impl_IsClocks_L1_s (m : Nat) (n : Nat) (a0_list : List S_Clock) (k0 : (List ByteArray) → Int → Option Bool) (l10 : List ByteArray) (i14 : Int) : F_impl_IsClocks_L1 n a0_list k0 (m + 1) l10 i14 = (bif decide (i14 < (a0_list.length : Int)) then (Option.bind (getI a0_list i14) fun x16 => (Option.bind (F_impl_isClock n a0_list i14) fun r36 => (bif (!r36) then (some false) else (Option.bind (appN l10 [x16.Name] 16) fun z57 => (F_impl_IsClocks_L1 n a0_list k0 m z57 (IntKind.wrap IntKind.i64 (i14 + 1))))))) else (k0 l10 i14)) := rfl

def F_impl_IsClocks (n : Nat) (a0_list : List S_Clock) : Option Bool := (bif decide ((a0_list.length : Int) > 6) then (some false) else (F_impl_IsClocks_L1 n a0_list (fun l10 i14 => (Option.bind (F_impl_areNames n l10) fun r15 => (some r15))) n (([] : List ByteArray)) 0))
set_option maxHeartbeats 40000000 in
theorem W_impl_IsClocks {n : Nat} {a0_list : List S_Clock} {r : Bool} {w : World} {v1 : Value} (hF : F_impl_IsClocks n a0_list = some r) (ha2 : slRep C_Clock w (Iv 0 w.heap.size) a0_list v1) :
    Calls Tryd.prog 18 [v1].toArray w (Ret fun u w2 => u = .bool r ∧ Ext w w2) := by
  refine calls_of Tryd.func18 rfl Tryd.ntmps18 ?_
  have he0 : Ext w w := Ext.refl w
  unfold F_impl_IsClocks at hF
  refine WC.seq ?_
  refine WC.region ?_
  refine TL.yld rfl rfl (yld_assign rfl rfl) ?_
  refine TL.done ?_
  refine NX.seq ?_
  refine WC.seq ?_
  refine WC.seq ?_
  refine WC.region ?_
  refine TL.yld rfl rfl (yld_move rfl rfl) ?_
  refine TL.yld rfl rfl (ye_len (c := C_Clock) rfl Tryd.underlying25 rfl (slRep.old ha2 he0 (Nat.le_refl _))) ?_
  refine TL.yld rfl rfl (yld_gtr rfl rfl rfl) ?_
  refine TL.done ?_
  refine NX.seq ?_
  refine WC.cond rfl ?_ ?_
  · intro hc3
    replace hF := bif_t hc3 hF
    refine WC.seq ?_
    refine WC.region ?_
    refine TL.yld rfl rfl (yld_assign rfl rfl) ?_
    refine TL.done ?_
    refine NX.seq ?_
    refine WC.ret' ?_
    refine NX.then_r ?_
    obtain rfl := Option.some.inj hF
    exact NX.end (rs := [.tmp 2]) (vs := [.bool false]) rfl ⟨rfl, trivial⟩ ⟨_, rfl, rfl, he0⟩
  · intro hc4
    replace hF := bif_f hc4 hF
    refine WC.skip' ?_
    refine NX.seq ?_
    refine WC.seq ?_
    refine WC.region ?_
    refine TL.yld rfl rfl (yld_assign rfl rfl) ?_
    refine TL.done ?_
    refine NX.seq ?_
    refine WC.seq ?_
    refine WC.seq ?_
    refine WC.region ?_
    refine TL.yld rfl rfl (yld_move rfl rfl) ?_
    refine TL.yld rfl rfl (ye_len (c := C_Clock) rfl Tryd.underlying25 rfl (slRep.old ha2 he0 (Nat.le_refl _))) ?_
    refine TL.yld rfl rfl (yld_move rfl rfl) ?_
    refine TL.done ?_
    refine NX.seq ?_
    refine WC.block ?_
    have hs7 : ownR cStr w (w.heap.size) (Iv 0 0) 9 [] (.slice none 0 0) := ownR.nil _ _ _ _ _
    have hbd8 : ∀ q, (Value.slice none 0 0).ownBlock = some q → w.heap.size ≤ q ∧ q < w.heap.size := bd_nil
    refine WC.loop (fun m15 a wl => ∃ (l10 : List ByteArray) (v11 : Value) (i14 : Int), Kn 28 [(0, v1), (3, v11), (9, v1), (10, .int .i64 ((a0_list.length : Int))), (11, .int .i64 i14)] a ∧ Ext w wl ∧ w.heap.size ≤ wl.heap.size ∧ ownR cStr wl (w.heap.size) (Iv 0 0) 9 l10 v11 ∧ (∀ q, v11.ownBlock = some q → w.heap.size ≤ q ∧ q < wl.heap.size) ∧ F_impl_IsClocks_L1 n a0_list (fun l10 i14 => (Option.bind (F_impl_areNames n l10) fun r15 => (some r15))) m15 l10 i14 = some r) n ?_ ?_
    · intro a hK; exact ⟨(([] : List ByteArray)), ((.slice none 0 0)), 0, hK.weaken ⟨rfl, rfl, rfl, rfl, rfl, trivial⟩, he0, Nat.le_refl _, hs7, (fun g hg => by have := hbd8 g hg; omega), hF⟩
    · rintro m15 a w5 ⟨l10, v11, i14, hK, he6, hz16, hs12, hbd13, hF⟩
      revert hK; revert a; refine (?_ : WC _ _ _ _ _ _)
      cases m15 with
      | zero => rw [F_impl_IsClocks_L1_z] at hF; cases hF
      | succ m15 =>
        rw [F_impl_IsClocks_L1_s] at hF
        refine WC.seq ?_
        refine WC.region ?_
        refine TL.yld rfl rfl (yld_lss rfl rfl rfl) ?_
        refine TL.done ?_
        refine NX.seq ?_
        refine WC.seq ?_
        refine WC.cond rfl ?_ ?_
        · intro hc17
          replace hF := bif_t hc17 hF
          refine WC.skip' ?_
          refine NX.seq ?_
          refine WC.seq ?_
          refine WC.block ?_
          refine WC.seq ?_
          refine WC.region ?_
          refine TL.yld rfl rfl (yld_move rfl rfl) ?_
          obtain ⟨x18, hy19, hF⟩ := bsome hF
          refine TL.ye rfl rfl (ye_index (c := C_Clock) rfl Tryd.underlying25 cn_45 rfl rfl (slRep.old ha2 he6 (Nat.le_refl _)) hy19) ?_
          rintro _ ⟨b20, o21, us22, rfl, hib25, hr23, hcl24⟩
          have hib25 : 0 ≤ b20 ∧ b20 < w.heap.size := ⟨hib25.1, by have := hib25.2; omega⟩
          obtain rfl := C_Clock_open hr23
          refine TL.yld rfl rfl (yld_loadN (us := [.string x18.Name, .int .i64 x18.Place, .int .i64 x18.Period, .int .i64 x18.RiseAt, .int .i64 x18.FallAt, .int .i64 x18.Source, .int .i64 x18.Divide, .bool x18.Invert, .int .i64 x18.EarlyLatency, .int .i64 x18.LateLatency, .int .i64 x18.Uncertainty]) rfl ag_45 rfl hcl24 cn_45) ?_
          refine TL.eff rfl rfl (eff_alloc rfl zn_45) ?_
          rintro _ w27 ⟨b26, rfl, hn28⟩
          obtain ⟨hn28e, hn28s, hn28x, hb29⟩ := hn28
          have hb29 : Box w27 b26 [.string ByteArray.empty, .int .i64 0, .int .i64 0, .int .i64 0, .int .i64 0, .int .i64 0, .int .i64 0, .bool false, .int .i64 0, .int .i64 0, .int .i64 0] 45 := hb29
          have he31 : Ext w w27 := Ext.trans he6 hn28x
          have hs12 := ownR.ext hs12 hn28x
          have hz32 := (hn28x).size
          have hlo30 : w.heap.size ≤ b26 := by rw [hn28e]; exact (he6).size
          refine TL.yld rfl rfl (yld_assign rfl rfl) ?_
          refine TL.eff rfl rfl (eff_store rfl rfl rfl hb29 cn_45 rfl rfl) ?_
          rintro _ w33 ⟨hu34, hb35⟩
          have he36 : Ext w w33 := Below.trans he31 (Upd.below hu34 (by omega))
          have hs12 := ownR.upd hs12 hu34 (fun g hg => by have := hbd13 g hg; omega)
          have hz37 := (hu34).size
          have hb29 : Box w33 b26 [.string x18.Name, .int .i64 x18.Place, .int .i64 x18.Period, .int .i64 x18.RiseAt, .int .i64 x18.FallAt, .int .i64 x18.Source, .int .i64 x18.Divide, .bool x18.Invert, .int .i64 x18.EarlyLatency, .int .i64 x18.LateLatency, .int .i64 x18.Uncertainty] 45 := hb35
          refine TL.done ?_
          refine NX.seq ?_
          refine WC.seq ?_
          refine WC.seq ?_
          refine WC.region ?_
          refine TL.yld rfl rfl (yld_move rfl rfl) ?_
          refine TL.yld rfl rfl (yld_move rfl rfl) ?_
          obtain ⟨r38, hr39, hF⟩ := bsome hF
          refine TL.eff rfl rfl (eff_call rfl gf_50 rfl (W_impl_isClock hr39 ((slRep.old ha2 he36 (Nat.le_refl _)).wide (Nat.le_refl _) (he36).size))) ?_
          rintro _ w40 ⟨rfl, hx41⟩
          have he42 : Ext w w40 := Ext.trans he36 hx41
          have hb29 := Box.ext hb29 hx41
          have hs12 := ownR.ext hs12 hx41
          have hz43 := (hx41).size
          refine TL.yld rfl rfl (yld_not rfl rfl) ?_
          refine TL.done ?_
          refine NX.seq ?_
          refine WC.cond rfl ?_ ?_
          · intro hc44
            replace hF := bif_t hc44 hF
            refine WC.seq ?_
            refine WC.region ?_
            refine TL.yld rfl rfl (yld_assign rfl rfl) ?_
            refine TL.done ?_
            refine NX.seq ?_
            refine WC.ret' ?_
            refine NX.then_r ?_
            refine NX.blk_r ?_
            refine NX.then_r ?_
            refine NX.then_r ?_
            refine NX.blk_r ?_
            refine NX.then_r ?_
            obtain rfl := Option.some.inj hF
            exact NX.end (rs := [.tmp 2]) (vs := [.bool false]) rfl ⟨rfl, trivial⟩ ⟨_, rfl, rfl, he42⟩
          · intro hc45
            replace hF := bif_f hc45 hF
            refine WC.skip' ?_
            refine NX.seq ?_
            refine WC.region ?_
            refine TL.yld rfl rfl (yld_move rfl rfl) ?_
            refine TL.yld rfl rfl (yld_fieldAddr rfl fo_45_0 rfl) ?_
            refine TL.yld rfl rfl (yld_load1 0 rfl ag_9 rfl (Box.cells hb29) rfl rfl) ?_
            refine TL.eff rfl rfl (eff_buildSlice (c := cStr) (xs := [x18.Name]) (S := (Iv 0 0)) (uss := [(0, [.string x18.Name])]) (out := [.string x18.Name]) rfl Tryd.underlying63 in_9 rfl rfl (fillL_all [[.string x18.Name]] rfl rfl rfl) rfl rfl rfl rfl (one_rep (uss := [[.string x18.Name]]) (show reps _ _ _ _ _ from ⟨rfl, trivial⟩) rfl) (fun k h => by have := h.2; omega) rfl) ?_
            rintro v46 w47 ⟨g48, hv49, hg50, hz51, hx52, hs53⟩
            have he54 : Ext w w47 := Ext.trans he42 hx52
            have hb29 := Box.ext hb29 hx52
            have hs12 := ownR.ext hs12 hx52
            have hz55 := (hx52).size
            have hlo56 : w.heap.size ≤ g48 := by rw [hg50]; exact (he42).size
            have hbd57 := bd_of hv49
            clear hv49
            obtain ⟨z59, ha60, hF⟩ := bsome hF
            refine TL.eff rfl rfl (eff_appendF (c := cStr) rfl Tryd.underlying63 in_9 rfl rfl rfl rfl rfl hs12 (by omega) (ownR.slf hs53 (Nat.le_refl _) (Nat.le_refl _)) ha60) ?_
            rintro v61 w62 ⟨hs63, hgr64⟩
            have he66 : Ext w w62 := Below.trans he54 (Grew.low hgr64 (fun g hg => by have := hbd13 g hg; omega) (he54).size)
            have hp67 : ∀ g, v61.ownBlock = some g → g ≠ b26 := Grew.sepP (p := fun g => g ≠ b26) hgr64 (fun g hg => by have := hbd13 g hg; omega) (fun g hg => by omega)
            have hb29 := Grew.box hgr64 hb29 (fun g hg => by have := hbd13 g hg; omega)
            have hp68 : ∀ g q, v11.ownBlock = some g → v46.ownBlock = some q → g ≠ q := (fun g q hg hq => by have := hbd13 g hg; have := hbd57 q hq; omega)
            have hp69 : ∀ g q, v61.ownBlock = some g → v46.ownBlock = some q → g ≠ q := fun g q hg hq => Grew.sepP (p := fun g => ∀ q, v46.ownBlock = some q → g ≠ q) hgr64 (fun g hg q hq => (hp68) g q hg hq) (fun g hg q hq => by have := hbd57 q hq; omega) g hg q hq
            have hs53 := Grew.ownF hgr64 hs53 hp68
            have hz70 := (hgr64).1.size
            have hbd71 : ∀ g, v61.ownBlock = some g → w.heap.size ≤ g ∧ g < w62.heap.size := Grew.bd hgr64 hs63 (fun g hg => ⟨by have := hbd13 g hg; omega, (hbd13 g hg).2⟩) (by omega) (by omega)
            refine TL.yld rfl rfl (yld_assign rfl rfl) ?_
            refine TL.done ?_
            refine NX.blk_n ?_
            refine NX.seq ?_
            refine WC.region ?_
            refine TL.yld rfl rfl (yld_add rfl rfl rfl) ?_
            refine TL.yld rfl rfl (yld_move rfl rfl) ?_
            refine TL.done ?_
            refine NX.then_n ?_
            intro a hK; exact ⟨m15, Nat.lt_succ_self m15, z59, v61, (IntKind.wrap IntKind.i64 (i14 + 1)), hK.weaken ⟨rfl, rfl, rfl, rfl, rfl, trivial⟩, he66, (by omega), hs63, (fun g hg => by have := hbd71 g hg; omega), hF⟩
        · intro hc72
          replace hF := bif_f hc72 hF
          refine WC.exit' ?_
          refine NX.then_e ?_
          refine NX.then_e ?_
          refine NX.blk_hit ?_
          refine NX.seq ?_
          refine WC.seq ?_
          refine WC.region ?_
          refine TL.yld rfl rfl (yld_move rfl rfl) ?_
          obtain ⟨r73, hr74, hF⟩ := bsome hF
          refine TL.eff rfl rfl (eff_call rfl gf_51 rfl (W_impl_areNames hr74 (ownR.slf hs12 (Nat.zero_le _) (Nat.le_refl _)))) ?_
          rintro _ w75 ⟨rfl, hx76⟩
          have he77 : Ext w w75 := Ext.trans he6 hx76
          have hs12 := ownR.ext hs12 hx76
          have hz78 := (hx76).size
          refine TL.yld rfl rfl (yld_assign rfl rfl) ?_
          refine TL.done ?_
          refine NX.seq ?_
          refine WC.ret' ?_
          obtain rfl := Option.some.inj hF
          exact NX.end (rs := [.tmp 2]) (vs := [.bool r73]) rfl ⟨rfl, trivial⟩ ⟨_, rfl, rfl, he77⟩

-- loop.example/g00861/impl.areWithin$1
def F_impl_areWithin_1 (n : Nat) (a0_n : Int) (a1_c : Int) (a2_c : Int) : Option Bool := (Option.bind (F_impl_within n a0_n a1_c a2_c) fun r3 => (some (!r3)))
set_option maxHeartbeats 40000000 in
theorem W_impl_areWithin_1 {n : Nat} {a0_n : Int} {a1_c : Int} {a2_c : Int} {r : Bool} {w : World} {b1_ : Nat} {b2_ : Nat} (hF : F_impl_areWithin_1 n a0_n a1_c a2_c = some r) (hb1 : Box w b1_ [.int .i64 a1_c] 2) (hb2 : Box w b2_ [.int .i64 a2_c] 2) :
    Calls Tryd.prog 86 [.int .i64 a0_n, .pointer (some ⟨b1_, 0, none⟩), .pointer (some ⟨b2_, 0, none⟩)].toArray w (Ret fun u w2 => u = .bool r ∧ Ext w w2) := by
  refine calls_of Tryd.func86 rfl Tryd.ntmps86 ?_
  have he0 : Ext w w := Ext.refl w
  have := Box.lt hb1
  have := Box.lt hb2
  unfold F_impl_areWithin_1 at hF
  refine WC.seq ?_
  refine WC.region ?_
  refine TL.yld rfl rfl (yld_assign rfl rfl) ?_
  refine TL.done ?_
  refine NX.seq ?_
  refine WC.seq ?_
  refine WC.region ?_
  refine TL.yld rfl rfl (yld_move rfl rfl) ?_
  refine TL.yld rfl rfl (yld_load1 0 rfl ag_2 rfl (Box.cells hb1) rfl rfl) ?_
  refine TL.yld rfl rfl (yld_load1 0 rfl ag_2 rfl (Box.cells hb2) rfl rfl) ?_
  obtain ⟨r3, hr4, hF⟩ := bsome hF
  refine TL.eff rfl rfl (eff_call rfl gf_72 rfl (W_impl_within hr4)) ?_
  rintro _ w5 ⟨rfl, hx6⟩
  have he7 : Ext w w5 := Ext.trans he0 hx6
  have hb1 := Box.ext hb1 hx6
  have hb2 := Box.ext hb2 hx6
  have hz8 := (hx6).size
  refine TL.yld rfl rfl (yld_not rfl rfl) ?_
  refine TL.yld rfl rfl (yld_assign rfl rfl) ?_
  refine TL.done ?_
  refine NX.seq ?_
  refine WC.ret' ?_
  obtain rfl := Option.some.inj hF
  exact NX.end (rs := [.tmp 4]) (vs := [.bool (!r3)]) rfl ⟨rfl, trivial⟩ ⟨_, rfl, rfl, he7⟩

-- slices.IndexFunc[[]int64,int64]
def F_slices_IndexFunc_int64_int64_on_impl_areWithin_1_L1 (n : Nat) (a0_s : List Int) (a1c0_c : Int) (a1c1_c : Int) (k0 : Int → Option Int) : Nat → Int → Option Int
  | 0 => fun _ => none
  | m + 1 => fun i7 => (bif decide (i7 < (a0_s.length : Int)) then (Option.bind (getI a0_s i7) fun x11 => (Option.bind (F_impl_areWithin_1 n x11 a1c0_c a1c1_c) fun r19 => (bif r19 then (some i7) else (F_slices_IndexFunc_int64_int64_on_impl_areWithin_1_L1 n a0_s a1c0_c a1c1_c k0 m (IntKind.wrap IntKind.i64 (i7 + 1)))))) else (k0 i7))
theorem F_slices_IndexFunc_int64_int64_on_impl_areWithin_1_L1_z (n : Nat) (a0_s : List Int) (a1c0_c : Int) (a1c1_c : Int) (k0 : Int → Option Int) (i7 : Int) : F_slices_IndexFunc_int64_int64_on_impl_areWithin_1_L1 n a0_s a1c0_c a1c1_c k0 0 i7 = none := rfl
theorem F_slices_IndexFunc_int64_int64_on_impl_areWithin_1_L1_s (m : Nat) (n : Nat) (a0_s : List Int) (a1c0_c : Int) (a1c1_c : Int) (k0 : Int → Option Int) (i7 : Int) : F_slices_IndexFunc_int64_int64_on_impl_areWithin_1_L1 n a0_s a1c0_c a1c1_c k0 (m + 1) i7 = (bif decide (i7 < (a0_s.length : Int)) then (Option.bind (getI a0_s i7) fun x11 => (Option.bind (F_impl_areWithin_1 n x11 a1c0_c a1c1_c) fun r19 => (bif r19 then (some i7) else (F_slices_IndexFunc_int64_int64_on_impl_areWithin_1_L1 n a0_s a1c0_c a1c1_c k0 m (IntKind.wrap IntKind.i64 (i7 + 1)))))) else (k0 i7)) := rfl

def F_slices_IndexFunc_int64_int64_on_impl_areWithin_1 (n : Nat) (a0_s : List Int) (a1c0_c : Int) (a1c1_c : Int) : Option Int := (F_slices_IndexFunc_int64_int64_on_impl_areWithin_1_L1 n a0_s a1c0_c a1c1_c (fun i7 => (some (-1))) n 0)
set_option maxHeartbeats 40000000 in
theorem W_slices_IndexFunc_int64_int64_on_impl_areWithin_1 {n : Nat} {a0_s : List Int} {a1c0_c : Int} {a1c1_c : Int} {r : Int} {w : World} {v1 : Value} {b1c0_ : Nat} {b1c1_ : Nat} (hF : F_slices_IndexFunc_int64_int64_on_impl_areWithin_1 n a0_s a1c0_c a1c1_c = some r) (ha2 : slRep (cInt .i64) w (Iv 0 w.heap.size) a0_s v1) (hb3 : Box w b1c0_ [.int .i64 a1c0_c] 2) (hb4 : Box w b1c1_ [.int .i64 a1c1_c] 2) :
    Calls Tryd.prog 95 [v1, .func (.func 86) #[] [.pointer (some ⟨b1c0_, 0, none⟩), .pointer (some ⟨b1c1_, 0, none⟩)].toArray].toArray w (Ret fun u w2 => u = .int .i64 r ∧ Ext w w2) := by
  refine calls_of Tryd.func95 rfl Tryd.ntmps95 ?_
  have he0 : Ext w w := Ext.refl w
  have := Box.lt hb3
  have := Box.lt hb4
  unfold F_slices_IndexFunc_int64_int64_on_impl_areWithin_1 at hF
  refine WC.seq ?_
  refine WC.region ?_
  refine TL.yld rfl rfl (yld_assign rfl rfl) ?_
  refine TL.done ?_
  refine NX.seq ?_
  refine WC.seq ?_
  refine WC.seq ?_
  refine WC.region ?_
  refine TL.yld rfl rfl (yld_move rfl rfl) ?_
  refine TL.yld rfl rfl (ye_len (c := (cInt .i64)) rfl Tryd.underlying46 rfl (slRep.old ha2 he0 (Nat.le_refl _))) ?_
  refine TL.yld rfl rfl (yld_move rfl rfl) ?_
  refine TL.done ?_
  refine NX.seq ?_
  refine WC.block ?_
  refine WC.loop (fun m10 a wl => ∃ (i7 : Int), Kn 19 [(0, v1), (1, .func (.func 86) #[] [.pointer (some ⟨b1c0_, 0, none⟩), .pointer (some ⟨b1c1_, 0, none⟩)].toArray), (7, .int .i64 ((a0_s.length : Int))), (8, .int .i64 i7)] a ∧ Ext w wl ∧ w.heap.size ≤ wl.heap.size ∧ Box wl b1c0_ [.int .i64 a1c0_c] 2 ∧ Box wl b1c1_ [.int .i64 a1c1_c] 2 ∧ F_slices_IndexFunc_int64_int64_on_impl_areWithin_1_L1 n a0_s a1c0_c a1c1_c (fun i7 => (some (-1))) m10 i7 = some r) n ?_ ?_
  · intro a hK; exact ⟨0, hK.weaken ⟨rfl, rfl, rfl, rfl, trivial⟩, he0, Nat.le_refl _, hb3, hb4, hF⟩
  · rintro m10 a w5 ⟨i7, hK, he6, hz11, hb8, hb9, hF⟩
    revert hK; revert a; refine (?_ : WC _ _ _ _ _ _)
    cases m10 with
    | zero => rw [F_slices_IndexFunc_int64_int64_on_impl_areWithin_1_L1_z] at hF; cases hF
    | succ m10 =>
      rw [F_slices_IndexFunc_int64_int64_on_impl_areWithin_1_L1_s] at hF
      refine WC.seq ?_
      refine WC.region ?_
      refine TL.yld rfl rfl (yld_lss rfl rfl rfl) ?_
      refine TL.done ?_
      refine NX.seq ?_
      refine WC.seq ?_
      refine WC.cond rfl ?_ ?_
      · intro hc12
        replace hF := bif_t hc12 hF
        refine WC.skip' ?_
        refine NX.seq ?_
        refine WC.seq ?_
        refine WC.block ?_
        refine WC.seq ?_
        refine WC.region ?_
        refine TL.yld rfl rfl (yld_move rfl rfl) ?_
        refine TL.yld rfl rfl (yld_assign rfl rfl) ?_
        refine TL.done ?_
        refine NX.seq ?_
        refine WC.seq ?_
        refine WC.region ?_
        refine TL.yld rfl rfl (yld_move rfl rfl) ?_
        refine TL.yld rfl rfl (yld_move rfl rfl) ?_
        refine TL.yld rfl rfl (yld_move rfl rfl) ?_
        obtain ⟨x13, hy14, hF⟩ := bsome hF
        refine TL.ye rfl rfl (ye_index (c := (cInt .i64)) rfl Tryd.underlying46 cn_2 rfl rfl (slRep.old ha2 he6 (Nat.le_refl _)) hy14) ?_
        rintro _ ⟨b15, o16, us17, rfl, hib20, hr18, hcl19⟩
        have hib20 : 0 ≤ b15 ∧ b15 < w.heap.size := ⟨hib20.1, by have := hib20.2; omega⟩
        obtain rfl := hr18
        refine TL.yld rfl rfl (yld_load1 0 rfl ag_2 rfl hcl19 rfl rfl) ?_
        obtain ⟨r21, hr22, hF⟩ := bsome hF
        refine TL.eff rfl rfl (eff_callv rfl gf_86 rfl rfl (W_impl_areWithin_1 hr22 hb8 hb9)) ?_
        rintro _ w23 ⟨rfl, hx24⟩
        have he25 : Ext w w23 := Ext.trans he6 hx24
        have hb8 := Box.ext hb8 hx24
        have hb9 := Box.ext hb9 hx24
        have hz26 := (hx24).size
        refine TL.done ?_
        refine NX.seq ?_
        refine WC.cond rfl ?_ ?_
        · intro hc27
          replace hF := bif_t hc27 hF
          refine WC.seq ?_
          refine WC.region ?_
          refine TL.yld rfl rfl (yld_move rfl rfl) ?_
          refine TL.yld rfl rfl (yld_assign rfl rfl) ?_
          refine TL.done ?_
          refine NX.seq ?_
          refine WC.ret' ?_
          refine NX.blk_r ?_
          refine NX.then_r ?_
          refine NX.then_r ?_
          refine NX.blk_r ?_
          refine NX.then_r ?_
          obtain rfl := Option.some.inj hF
          exact NX.end (rs := [.tmp 4]) (vs := [.int .i64 i7]) rfl ⟨rfl, trivial⟩ ⟨_, rfl, rfl, he25⟩
        · intro hc28
          replace hF := bif_f hc28 hF
          refine WC.skip' ?_
          refine NX.blk_n ?_
          refine NX.seq ?_
          refine WC.region ?_
          refine TL.yld rfl rfl (yld_add rfl rfl rfl) ?_
          refine TL.yld rfl rfl (yld_move rfl rfl) ?_
          refine TL.done ?_
          refine NX.then_n ?_
          intro a hK; exact ⟨m10, Nat.lt_succ_self m10, (IntKind.wrap IntKind.i64 (i7 + 1)), hK.weaken ⟨rfl, rfl, rfl, rfl, trivial⟩, he25, (by omega), hb8, hb9, hF⟩
      · intro hc29
        replace hF := bif_f hc29 hF
        refine WC.exit' ?_
        refine NX.then_e ?_
        refine NX.then_e ?_
        refine NX.blk_hit ?_
        refine NX.seq ?_
        refine WC.seq ?_
        refine WC.region ?_
        refine TL.yld rfl rfl (yld_assign rfl rfl) ?_
        refine TL.done ?_
        refine NX.seq ?_
        refine WC.ret' ?_
        obtain rfl := Option.some.inj hF
        exact NX.end (rs := [.tmp 4]) (vs := [.int .i64 (-1)]) rfl ⟨rfl, trivial⟩ ⟨_, rfl, rfl, he6⟩

-- slices.ContainsFunc[[]int64,int64]
def F_slices_ContainsFunc_int64_int64_on_impl_areWithin_1 (n : Nat) (a0_s : List Int) (a1c0_c : Int) (a1c1_c : Int) : Option Bool := (Option.bind (F_slices_IndexFunc_int64_int64_on_impl_areWithin_1 n a0_s a1c0_c a1c1_c) fun r5 => (some (decide (r5 ≥ 0))))
set_option maxHeartbeats 40000000 in
theorem W_slices_ContainsFunc_int64_int64_on_impl_areWithin_1 {n : Nat} {a0_s : List Int} {a1c0_c : Int} {a1c1_c : Int} {r : Bool} {w : World} {v1 : Value} {b1c0_ : Nat} {b1c1_ : Nat} (hF : F_slices_ContainsFunc_int64_int64_on_impl_areWithin_1 n a0_s a1c0_c a1c1_c = some r) (ha2 : slRep (cInt .i64) w (Iv 0 w.heap.size) a0_s v1) (hb3 : Box w b1c0_ [.int .i64 a1c0_c] 2) (hb4 : Box w b1c1_ [.int .i64 a1c1_c] 2) :
    Calls Tryd.prog 85 [v1, .func (.func 86) #[] [.pointer (some ⟨b1c0_, 0, none⟩), .pointer (some ⟨b1c1_, 0, none⟩)].toArray].toArray w (Ret fun u w2 => u = .bool r ∧ Ext w w2) := by
  refine calls_of Tryd.func85 rfl Tryd.ntmps85 ?_
  have he0 : Ext w w := Ext.refl w
  have := Box.lt hb3
  have := Box.lt hb4
  unfold F_slices_ContainsFunc_int64_int64_on_impl_areWithin_1 at hF
  refine WC.seq ?_
  refine WC.region ?_
  refine TL.yld rfl rfl (yld_assign rfl rfl) ?_
  refine TL.done ?_
  refine NX.seq ?_
  refine WC.seq ?_
  refine WC.region ?_
  refine TL.yld rfl rfl (yld_move rfl rfl) ?_
  refine TL.yld rfl rfl (yld_move rfl rfl) ?_
  obtain ⟨r5, hr6, hF⟩ := bsome hF
  refine TL.eff rfl rfl (eff_call rfl gf_95 rfl (W_slices_IndexFunc_int64_int64_on_impl_areWithin_1 hr6 ((slRep.old ha2 he0 (Nat.le_refl _)).wide (Nat.le_refl _) (he0).size) hb3 hb4)) ?_
  rintro _ w7 ⟨rfl, hx8⟩
  have he9 : Ext w w7 := Ext.trans he0 hx8
  have hb3 := Box.ext hb3 hx8
  have hb4 := Box.ext hb4 hx8
  have hz10 := (hx8).size
  refine TL.yld rfl rfl (yld_geq rfl rfl rfl) ?_
  refine TL.yld rfl rfl (yld_assign rfl rfl) ?_
  refine TL.done ?_
  refine NX.seq ?_
  refine WC.ret' ?_
  obtain rfl := Option.some.inj hF
  exact NX.end (rs := [.tmp 4]) (vs := [.bool (decide (r5 ≥ 0))]) rfl ⟨rfl, trivial⟩ ⟨_, rfl, rfl, he9⟩

-- loop.example/g00861/impl.areWithin
def F_impl_areWithin (n : Nat) (a0_list : List Int) (a1_low : Int) (a2_high : Int) : Option Bool := (Option.bind (F_slices_ContainsFunc_int64_int64_on_impl_areWithin_1 n a0_list a1_low a2_high) fun r17 => (some (!r17)))
set_option maxHeartbeats 40000000 in
theorem W_impl_areWithin {n : Nat} {a0_list : List Int} {a1_low : Int} {a2_high : Int} {r : Bool} {w : World} {v1 : Value} (hF : F_impl_areWithin n a0_list a1_low a2_high = some r) (ha2 : slRep (cInt .i64) w (Iv 0 w.heap.size) a0_list v1) :
    Calls Tryd.prog 76 [v1, .int .i64 a1_low, .int .i64 a2_high].toArray w (Ret fun u w2 => u = .bool r ∧ Ext w w2) := by
  refine calls_of Tryd.func76 rfl Tryd.ntmps76 ?_
  have he0 : Ext w w := Ext.refl w
  unfold F_impl_areWithin at hF
  refine WC.seq ?_
  refine WC.region ?_
  refine TL.eff rfl rfl (eff_box rfl rfl) ?_
  rintro _ w4 ⟨b3, rfl, hn5⟩
  obtain ⟨hn5e, hn5s, hn5x, hb6⟩ := hn5
  have hb6 : Box w4 b3 [.int .i64 a1_low] 2 := hb6
  have he8 : Ext w w4 := Ext.trans he0 hn5x
  have hz9 := (hn5x).size
  have hlo7 : w.heap.size ≤ b3 := by rw [hn5e]; exact (he0).size
  refine TL.eff rfl rfl (eff_box rfl rfl) ?_
  rintro _ w11 ⟨b10, rfl, hn12⟩
  obtain ⟨hn12e, hn12s, hn12x, hb13⟩ := hn12
  have hb13 : Box w11 b10 [.int .i64 a2_high] 2 := hb13
  have he15 : Ext w w11 := Ext.trans he8 hn12x
  have hb6 := Box.ext hb6 hn12x
  have hz16 := (hn12x).size
  have hlo14 : w.heap.size ≤ b10 := by rw [hn12e]; exact (he8).size
  refine TL.yld rfl rfl (yld_assign rfl rfl) ?_
  refine TL.done ?_
  refine NX.seq ?_
  refine WC.seq ?_
  refine WC.region ?_
  refine TL.yld rfl rfl (yld_move rfl rfl) ?_
  refine TL.yld rfl rfl (yld_makeFunc rfl rfl rfl) ?_
  obtain ⟨r17, hr18, hF⟩ := bsome hF
  refine TL.eff rfl rfl (eff_call rfl gf_85 rfl (W_slices_ContainsFunc_int64_int64_on_impl_areWithin_1 hr18 ((slRep.old ha2 he15 (Nat.le_refl _)).wide (Nat.le_refl _) (he15).size) hb6 hb13)) ?_
  rintro _ w19 ⟨rfl, hx20⟩
  have he21 : Ext w w19 := Ext.trans he15 hx20
  have hb6 := Box.ext hb6 hx20
  have hb13 := Box.ext hb13 hx20
  have hz22 := (hx20).size
  refine TL.yld rfl rfl (yld_not rfl rfl) ?_
  refine TL.yld rfl rfl (yld_assign rfl rfl) ?_
  refine TL.done ?_
  refine NX.seq ?_
  refine WC.ret' ?_
  obtain rfl := Option.some.inj hF
  exact NX.end (rs := [.tmp 6]) (vs := [.bool (!r17)]) rfl ⟨rfl, trivial⟩ ⟨_, rfl, rfl, he21⟩

-- loop.example/g00861/impl.length[loop.example/g00861/impl.Clock]
def F_impl_length_impl_Clock (n : Nat) (a0_list : List S_Clock) : Option Int := (some ((a0_list.length : Int)))
set_option maxHeartbeats 40000000 in
theorem W_impl_length_impl_Clock {n : Nat} {a0_list : List S_Clock} {r : Int} {w : World} {v1 : Value} (hF : F_impl_length_impl_Clock n a0_list = some r) (ha2 : slRep C_Clock w (Iv 0 w.heap.size) a0_list v1) :
    Calls Tryd.prog 77 [v1].toArray w (Ret fun u w2 => u = .int .i64 r ∧ Ext w w2) := by
  refine calls_of Tryd.func77 rfl Tryd.ntmps77 ?_
  have he0 : Ext w w := Ext.refl w
  unfold F_impl_length_impl_Clock at hF
  refine WC.seq ?_
  refine WC.region ?_
  refine TL.yld rfl rfl (yld_assign rfl rfl) ?_
  refine TL.done ?_
  refine NX.seq ?_
  refine WC.seq ?_
  refine WC.region ?_
  refine TL.yld rfl rfl (yld_move rfl rfl) ?_
  refine TL.yld rfl rfl (ye_len (c := C_Clock) rfl Tryd.underlying25 rfl (slRep.old ha2 he0 (Nat.le_refl _))) ?_
  refine TL.yld rfl rfl (yld_assign rfl rfl) ?_
  refine TL.done ?_
  refine NX.seq ?_
  refine WC.ret' ?_
  obtain rfl := Option.some.inj hF
  exact NX.end (rs := [.tmp 2]) (vs := [.int .i64 ((a0_list.length : Int))]) rfl ⟨rfl, trivial⟩ ⟨_, rfl, rfl, he0⟩

-- loop.example/g00861/impl.clockCode
def F_impl_clockCode (n : Nat) (a0_list : List S_Clock) (a1_clocks : List Int) : Option Int := (Option.bind (F_impl_IsClocks n a0_list) fun r5 => (bif (!r5) then (some 1) else (Option.bind (F_impl_length_impl_Clock n a0_list) fun r13 => (Option.bind (F_impl_areWithin n a1_clocks 0 (IntKind.wrap IntKind.i64 (r13 - 1))) fun r19 => (bif (!r19) then (some 4) else (some 0))))))
set_option maxHeartbeats 40000000 in
theorem W_impl_clockCode {n : Nat} {a0_list : List S_Clock} {a1_clocks : List Int} {r : Int} {w : World} {v1 : Value} {v3 : Value} (hF : F_impl_clockCode n a0_list a1_clocks = some r) (ha2 : slRep C_Clock w (Iv 0 w.heap.size) a0_list v1) (ha4 : slRep (cInt .i64) w (Iv 0 w.heap.size) a1_clocks v3) :
    Calls Tryd.prog 54 [v1, v3].toArray w (Ret fun u w2 => u = .int .i64 r ∧ Ext w w2) := by
  refine calls_of Tryd.func54 rfl Tryd.ntmps54 ?_
  have he0 : Ext w w := Ext.refl w
  unfold F_impl_clockCode at hF
  refine WC.seq ?_
  refine WC.region ?_
  refine TL.yld rfl rfl (yld_assign rfl rfl) ?_
  refine TL.done ?_
  refine NX.seq ?_
  refine WC.seq ?_
  refine WC.block ?_
  refine WC.seq ?_
  refine WC.region ?_
  refine TL.yld rfl rfl (yld_move rfl rfl) ?_
  obtain ⟨r5, hr6, hF⟩ := bsome hF
  refine TL.eff rfl rfl (eff_call rfl gf_18 rfl (W_impl_IsClocks hr6 ((slRep.old ha2 he0 (Nat.le_refl _)).wide (Nat.le_refl _) (he0).size))) ?_
  rintro _ w7 ⟨rfl, hx8⟩
  have he9 : Ext w w7 := Ext.trans he0 hx8
  have hz10 := (hx8).size
  refine TL.yld rfl rfl (yld_not rfl rfl) ?_
  refine TL.yld rfl rfl (yld_assign rfl rfl) ?_
  refine TL.done ?_
  refine NX.seq ?_
  refine WC.cond rfl ?_ ?_
  · intro hc11
    replace hF := bif_t hc11 hF
    refine WC.seq ?_
    refine WC.region ?_
    refine TL.yld rfl rfl (yld_assign rfl rfl) ?_
    refine TL.done ?_
    refine NX.seq ?_
    refine WC.ret' ?_
    refine NX.blk_r ?_
    refine NX.then_r ?_
    obtain rfl := Option.some.inj hF
    exact NX.end (rs := [.tmp 4]) (vs := [.int .i64 1]) rfl ⟨rfl, trivial⟩ ⟨_, rfl, rfl, he9⟩
  · intro hc12
    replace hF := bif_f hc12 hF
    refine WC.seq ?_
    refine WC.region ?_
    refine TL.yld rfl rfl (yld_move rfl rfl) ?_
    refine TL.yld rfl rfl (yld_move rfl rfl) ?_
    obtain ⟨r13, hr14, hF⟩ := bsome hF
    refine TL.eff rfl rfl (eff_call rfl gf_77 rfl (W_impl_length_impl_Clock hr14 ((slRep.old ha2 he9 (Nat.le_refl _)).wide (Nat.le_refl _) (he9).size))) ?_
    rintro _ w15 ⟨rfl, hx16⟩
    have he17 : Ext w w15 := Ext.trans he9 hx16
    have hz18 := (hx16).size
    refine TL.yld rfl rfl (yld_sub rfl rfl rfl) ?_
    obtain ⟨r19, hr20, hF⟩ := bsome hF
    refine TL.eff rfl rfl (eff_call rfl gf_76 rfl (W_impl_areWithin hr20 ((slRep.old ha4 he17 (Nat.le_refl _)).wide (Nat.le_refl _) (he17).size))) ?_
    rintro _ w21 ⟨rfl, hx22⟩
    have he23 : Ext w w21 := Ext.trans he17 hx22
    have hz24 := (hx22).size
    refine TL.yld rfl rfl (yld_not rfl rfl) ?_
    refine TL.yld rfl rfl (yld_assign rfl rfl) ?_
    refine TL.done ?_
    refine NX.seq ?_
    refine WC.cond rfl ?_ ?_
    · intro hc25
      replace hF := bif_t hc25 hF
      refine WC.seq ?_
      refine WC.region ?_
      refine TL.yld rfl rfl (yld_assign rfl rfl) ?_
      refine TL.done ?_
      refine NX.seq ?_
      refine WC.ret' ?_
      refine NX.blk_r ?_
      refine NX.then_r ?_
      obtain rfl := Option.some.inj hF
      exact NX.end (rs := [.tmp 4]) (vs := [.int .i64 4]) rfl ⟨rfl, trivial⟩ ⟨_, rfl, rfl, he23⟩
    · intro hc26
      replace hF := bif_f hc26 hF
      refine WC.skip' ?_
      refine NX.blk_n ?_
      refine NX.seq ?_
      refine WC.seq ?_
      refine WC.region ?_
      refine TL.yld rfl rfl (yld_assign rfl rfl) ?_
      refine TL.done ?_
      refine NX.seq ?_
      refine WC.ret' ?_
      obtain rfl := Option.some.inj hF
      exact NX.end (rs := [.tmp 4]) (vs := [.int .i64 0]) rfl ⟨rfl, trivial⟩ ⟨_, rfl, rfl, he23⟩

-- loop.example/g00861/impl.WaveOf
def F_impl_WaveOf (n : Nat) (a0_list : List S_Clock) (a1_k : Int) : Option (Int × Int × Int × Int) := (Option.bind (F_impl_clockCode n a0_list [a1_k]) fun r16 => (bif (r16 != 0) then (some (0, 0, 0, r16)) else (Option.bind (F_impl_waveOf n a0_list a1_k) fun r24 => (some (r24.period_, r24.edges_.e0, r24.edges_.e1, 0)))))
set_option maxHeartbeats 40000000 in
theorem W_impl_WaveOf {n : Nat} {a0_list : List S_Clock} {a1_k : Int} {r : Int × Int × Int × Int} {w : World} {v1 : Value} (hF : F_impl_WaveOf n a0_list a1_k = some r) (ha2 : slRep C_Clock w (Iv 0 w.heap.size) a0_list v1) :
    Calls Tryd.prog 21 [v1, .int .i64 a1_k].toArray w (Ret fun u w2 => u = .tuple #[.int .i64 r.1, .int .i64 r.2.1, .int .i64 r.2.2.1, .int .i64 r.2.2.2] ∧ Ext w w2) := by
  refine calls_of Tryd.func21 rfl Tryd.ntmps21 ?_
  have he0 : Ext w w := Ext.refl w
  unfold F_impl_WaveOf at hF
  refine WC.seq ?_
  refine WC.region ?_
  refine TL.yld rfl rfl (yld_assign rfl rfl) ?_
  refine TL.yld rfl rfl (yld_assign rfl rfl) ?_
  refine TL.yld rfl rfl (yld_assign rfl rfl) ?_
  refine TL.yld rfl rfl (yld_assign rfl rfl) ?_
  refine TL.done ?_
  refine NX.seq ?_
  refine WC.seq ?_
  refine WC.seq ?_
  refine WC.region ?_
  refine TL.yld rfl rfl (yld_move rfl rfl) ?_
  refine TL.yld rfl rfl (yld_move rfl rfl) ?_
  refine TL.eff rfl rfl (eff_buildSlice (c := (cInt .i64)) (xs := [a1_k]) (S := (Iv 0 0)) (uss := [(0, [.int .i64 a1_k])]) (out := [.int .i64 a1_k]) rfl Tryd.underlying46 in_2 rfl rfl (fillL_all [[.int .i64 a1_k]] rfl rfl rfl) rfl rfl rfl rfl (one_rep (uss := [[.int .i64 a1_k]]) (show reps _ _ _ _ _ from ⟨rfl, trivial⟩) rfl) (fun k h => by have := h.2; omega) rfl) ?_
  rintro v3 w4 ⟨g5, hv6, hg7, hz8, hx9, hs10⟩
  have he11 : Ext w w4 := Ext.trans he0 hx9
  have hz12 := (hx9).size
  have hlo13 : w.heap.size ≤ g5 := by rw [hg7]; exact (he0).size
  have hbd14 := bd_of hv6
  clear hv6
  obtain ⟨r16, hr17, hF⟩ := bsome hF
  refine TL.eff rfl rfl (eff_call rfl gf_54 rfl (W_impl_clockCode hr17 ((slRep.old ha2 he11 (Nat.le_refl _)).wide (Nat.le_refl _) (he11).size) (ownR.slf hs10 (Nat.zero_le _) (Nat.le_refl _)))) ?_
  rintro _ w18 ⟨rfl, hx19⟩
  have he20 : Ext w w18 := Ext.trans he11 hx19
  have hs10 := ownR.ext hs10 hx19
  have hz21 := (hx19).size
  refine TL.yld rfl rfl (yld_assign rfl rfl) ?_
  refine TL.done ?_
  refine NX.seq ?_
  refine WC.seq ?_
  refine WC.region ?_
  refine TL.yld rfl rfl (yld_move rfl rfl) ?_
  refine TL.yld rfl rfl (yld_neq rfl rfl rfl) ?_
  refine TL.done ?_
  refine NX.seq ?_
  refine WC.cond rfl ?_ ?_
  · intro hc22
    replace hF := bif_t hc22 hF
    refine WC.seq ?_
    refine WC.region ?_
    refine TL.yld rfl rfl (yld_move rfl rfl) ?_
    refine TL.yld rfl rfl (yld_assign rfl rfl) ?_
    refine TL.yld rfl rfl (yld_assign rfl rfl) ?_
    refine TL.yld rfl rfl (yld_assign rfl rfl) ?_
    refine TL.yld rfl rfl (yld_assign rfl rfl) ?_
    refine TL.done ?_
    refine NX.seq ?_
    refine WC.ret' ?_
    refine NX.then_r ?_
    obtain rfl := Option.some.inj hF
    exact NX.end (rs := [.tmp 4, .tmp 5, .tmp 6, .tmp 7]) (vs := [.int .i64 0, .int .i64 0, .int .i64 0, .int .i64 r16]) rfl ⟨rfl, rfl, rfl, rfl, trivial⟩ ⟨_, rfl, rfl, he20⟩
  · intro hc23
    replace hF := bif_f hc23 hF
    refine WC.skip' ?_
    refine NX.seq ?_
    refine WC.seq ?_
    refine WC.region ?_
    refine TL.yld rfl rfl (yld_move rfl rfl) ?_
    refine TL.yld rfl rfl (yld_move rfl rfl) ?_
    obtain ⟨r24, hr25, hF⟩ := bsome hF
    refine TL.eff rfl rfl (eff_call rfl gf_55 rfl (W_impl_waveOf hr25 ((slRep.old ha2 he20 (Nat.le_refl _)).wide (Nat.le_refl _) (he20).size))) ?_
    rintro _ w26 ⟨rfl, hx27⟩
    have he28 : Ext w w26 := Ext.trans he20 hx27
    have hs10 := ownR.ext hs10 hx27
    have hz29 := (hx27).size
    refine TL.eff rfl rfl (eff_alloc rfl zn_71) ?_
    rintro _ w31 ⟨b30, rfl, hn32⟩
    obtain ⟨hn32e, hn32s, hn32x, hb33⟩ := hn32
    have hb33 : Box w31 b30 [.int .i64 0, .int .i64 0, .int .i64 0] 71 := hb33
    have he35 : Ext w w31 := Ext.trans he28 hn32x
    have hs10 := ownR.ext hs10 hn32x
    have hz36 := (hn32x).size
    have hlo34 : w.heap.size ≤ b30 := by rw [hn32e]; exact (he28).size
    refine TL.eff rfl rfl (eff_store rfl rfl rfl hb33 cn_71 rfl rfl) ?_
    rintro _ w37 ⟨hu38, hb39⟩
    have he40 : Ext w w37 := Below.trans he35 (Upd.below hu38 (by omega))
    have hs10 := ownR.upd hs10 hu38 (fun g hg => by have := hbd14 g hg; omega)
    have hz41 := (hu38).size
    have hb33 : Box w37 b30 [.int .i64 r24.period_, .int .i64 r24.edges_.e0, .int .i64 r24.edges_.e1] 71 := hb39
    refine TL.done ?_
    refine NX.seq ?_
    refine WC.seq ?_
    refine WC.quiet Tryd.hm (by kernel_rfl) ?_
    refine QL.yld rfl rfl (Yld.qui (yld_fieldAddr rfl fo_71_0 rfl)) ?_
    refine QL.yld rfl rfl (Yld.qui (yld_load1 0 rfl ag_2 rfl (Box.cells hb33) rfl rfl)) ?_
    refine QL.yld rfl rfl (Yld.qui (yld_fieldAddr rfl fo_71_1 rfl)) ?_
    refine QL.yld rfl rfl (Yld.qui (yld_indexArr rfl Tryd.underlying69 cn_2 rfl rfl (by decide))) ?_
    refine QL.yld rfl rfl (Yld.qui (yld_load1 1 rfl ag_2 rfl (Box.cells hb33) rfl rfl)) ?_
    refine QL.yld rfl rfl (Yld.qui (yld_fieldAddr rfl fo_71_1 rfl)) ?_
    refine QL.yld rfl rfl (Yld.qui (yld_indexArr rfl Tryd.underlying69 cn_2 rfl rfl (by decide))) ?_
    refine QL.yld rfl rfl (Yld.qui (yld_load1 2 rfl ag_2 rfl (Box.cells hb33) rfl rfl)) ?_
    refine QL.yld rfl rfl (Yld.qui (yld_assign rfl rfl)) ?_
    refine QL.yld rfl rfl (Yld.qui (yld_assign rfl rfl)) ?_
    refine QL.yld rfl rfl (Yld.qui (yld_assign rfl rfl)) ?_
    refine QL.yld rfl rfl (Yld.qui (yld_assign rfl rfl)) ?_
    refine QL.done fun w42 hx43 => ?_
    have he44 : Ext w w42 := Ext.trans he40 hx43
    have hb33 := Box.ext hb33 hx43
    have hs10 := ownR.ext hs10 hx43
    have hz45 := (hx43).size
    refine NX.seq ?_
    refine WC.ret' ?_
    obtain rfl := Option.some.inj hF
    exact NX.end (rs := [.tmp 4, .tmp 5, .tmp 6, .tmp 7]) (vs := [.int .i64 r24.period_, .int .i64 r24.edges_.e0, .int .i64 r24.edges_.e1, .int .i64 0]) rfl ⟨rfl, rfl, rfl, rfl, trivial⟩ ⟨_, rfl, rfl, he44⟩

-- loop.example/g00861/laws.big
def F_laws_big (n : Nat) (a0_code : List Int) : Option Bool := (some (decide ((a0_code.length : Int) > 4096)))
set_option maxHeartbeats 40000000 in
theorem W_laws_big {n : Nat} {a0_code : List Int} {r : Bool} {w : World} {v1 : Value} (hF : F_laws_big n a0_code = some r) (ha2 : slRep (cInt .u8) w (Iv 0 w.heap.size) a0_code v1) :
    Calls Tryd.prog 22 [v1].toArray w (Ret fun u w2 => u = .bool r ∧ Ext w w2) := by
  refine calls_of Tryd.func22 rfl Tryd.ntmps22 ?_
  have he0 : Ext w w := Ext.refl w
  unfold F_laws_big at hF
  refine WC.seq ?_
  refine WC.region ?_
  refine TL.yld rfl rfl (yld_assign rfl rfl) ?_
  refine TL.done ?_
  refine NX.seq ?_
  refine WC.seq ?_
  refine WC.region ?_
  refine TL.yld rfl rfl (yld_move rfl rfl) ?_
  refine TL.yld rfl rfl (ye_len (c := (cInt .u8)) rfl Tryd.underlying32 rfl (slRep.old ha2 he0 (Nat.le_refl _))) ?_
  refine TL.yld rfl rfl (yld_gtr rfl rfl rfl) ?_
  refine TL.yld rfl rfl (yld_assign rfl rfl) ?_
  refine TL.done ?_
  refine NX.seq ?_
  refine WC.ret' ?_
  obtain rfl := Option.some.inj hF
  exact NX.end (rs := [.tmp 2]) (vs := [.bool (decide ((a0_code.length : Int) > 4096))]) rfl ⟨rfl, trivial⟩ ⟨_, rfl, rfl, he0⟩

-- loop.example/g00861/impl.isTime
def F_impl_isTime (n : Nat) (a0_t : Int) : Option Bool := (Option.bind (F_impl_within n a0_t (-1000000000) 1000000000) fun r1 => (some r1))
set_option maxHeartbeats 40000000 in
theorem W_impl_isTime {n : Nat} {a0_t : Int} {r : Bool} {w : World} (hF : F_impl_isTime n a0_t = some r) :
    Calls Tryd.prog 64 [.int .i64 a0_t].toArray w (Ret fun u w2 => u = .bool r ∧ Ext w w2) := by
  refine calls_of Tryd.func64 rfl Tryd.ntmps64 ?_
  have he0 : Ext w w := Ext.refl w
  unfold F_impl_isTime at hF
  refine WC.seq ?_
  refine WC.region ?_
  refine TL.yld rfl rfl (yld_assign rfl rfl) ?_
  refine TL.done ?_
  refine NX.seq ?_
  refine WC.seq ?_
  refine WC.region ?_
  refine TL.yld rfl rfl (yld_move rfl rfl) ?_
  obtain ⟨r1, hr2, hF⟩ := bsome hF
  refine TL.eff rfl rfl (eff_call rfl gf_72 rfl (W_impl_within hr2)) ?_
  rintro _ w3 ⟨rfl, hx4⟩
  have he5 : Ext w w3 := Ext.trans he0 hx4
  have hz6 := (hx4).size
  refine TL.yld rfl rfl (yld_assign rfl rfl) ?_
  refine TL.done ?_
  refine NX.seq ?_
  refine WC.ret' ?_
  obtain rfl := Option.some.inj hF
  exact NX.end (rs := [.tmp 2]) (vs := [.bool r1]) rfl ⟨rfl, trivial⟩ ⟨_, rfl, rfl, he5⟩

-- loop.example/g00861/impl.modulo
def F_impl_modulo (n : Nat) (a0_a : Int) (a1_b : Int) : Option Int := (bif (a1_b == 0) then none else (bif (a1_b == 0) then none else (some (Int.tmod (IntKind.wrap IntKind.i64 ((Int.tmod a0_a a1_b) + a1_b)) a1_b))))
set_option maxHeartbeats 40000000 in
theorem W_impl_modulo {n : Nat} {a0_a : Int} {a1_b : Int} {r : Int} {w : World} (hF : F_impl_modulo n a0_a a1_b = some r) :
    Calls Tryd.prog 66 [.int .i64 a0_a, .int .i64 a1_b].toArray w (Ret fun u w2 => u = .int .i64 r ∧ Ext w w2) := by
  refine calls_of Tryd.func66 rfl Tryd.ntmps66 ?_
  have he0 : Ext w w := Ext.refl w
  unfold F_impl_modulo at hF
  refine WC.seq ?_
  refine WC.region ?_
  refine TL.yld rfl rfl (yld_assign rfl rfl) ?_
  refine TL.done ?_
  refine NX.seq ?_
  refine WC.seq ?_
  refine WC.region ?_
  refine TL.yld rfl rfl (yld_move rfl rfl) ?_
  refine TL.yld rfl rfl (yld_move rfl rfl) ?_
  obtain ⟨hn1, hF⟩ := nzero hF
  refine TL.yld rfl rfl (yld_rem rfl rfl rfl hn1) ?_
  refine TL.yld rfl rfl (yld_move rfl rfl) ?_
  refine TL.yld rfl rfl (yld_add rfl rfl rfl) ?_
  refine TL.yld rfl rfl (yld_move rfl rfl) ?_
  obtain ⟨hn2, hF⟩ := nzero hF
  refine TL.yld rfl rfl (yld_rem rfl rfl rfl hn2) ?_
  refine TL.yld rfl rfl (yld_assign rfl rfl) ?_
  refine TL.done ?_
  refine NX.seq ?_
  refine WC.ret' ?_
  obtain rfl := Option.some.inj hF
  exact NX.end (rs := [.tmp 4]) (vs := [.int .i64 (Int.tmod (IntKind.wrap IntKind.i64 ((Int.tmod a0_a a1_b) + a1_b)) a1_b)]) rfl ⟨rfl, trivial⟩ ⟨_, rfl, rfl, he0⟩

-- loop.example/g00861/impl.LevelAt
def F_impl_LevelAt (n : Nat) (a0_list : List S_Clock) (a1_k : Int) (a2_time : Int) : Option (Int × Int) := (Option.bind (F_impl_clockCode n a0_list [a1_k]) fun r16 => (bif (r16 != 0) then (some (0, r16)) else (Option.bind (F_impl_isTime n a2_time) fun r24 => (bif (!r24) then (some (0, 2)) else (Option.bind (F_impl_waveOf n a0_list a1_k) fun r32 => (Option.bind (F_impl_modulo n (IntKind.wrap IntKind.i64 (a2_time - r32.edges_.e0)) r32.period_) fun r50 => (Option.bind (F_impl_modulo n (IntKind.wrap IntKind.i64 (a2_time - r32.edges_.e1)) r32.period_) fun r52 => (bif decide (r50 < r52) then (some (1, 0)) else (some (0, 0))))))))))
set_option maxHeartbeats 40000000 in
theorem W_impl_LevelAt {n : Nat} {a0_list : List S_Clock} {a1_k : Int} {a2_time : Int} {r : Int × Int} {w : World} {v1 : Value} (hF : F_impl_LevelAt n a0_list a1_k a2_time = some r) (ha2 : slRep C_Clock w (Iv 0 w.heap.size) a0_list v1) :
    Calls Tryd.prog 33 [v1, .int .i64 a1_k, .int .i64 a2_time].toArray w (Ret fun u w2 => u = .tuple #[.int .i64 r.1, .int .i64 r.2] ∧ Ext w w2) := by
  refine calls_of Tryd.func33 rfl Tryd.ntmps33 ?_
  have he0 : Ext w w := Ext.refl w
  unfold F_impl_LevelAt at hF
  refine WC.seq ?_
  refine WC.region ?_
  refine TL.yld rfl rfl (yld_assign rfl rfl) ?_
  refine TL.yld rfl rfl (yld_assign rfl rfl) ?_
  refine TL.done ?_
  refine NX.seq ?_
  refine WC.seq ?_
  refine WC.region ?_
  refine TL.yld rfl rfl (yld_move rfl rfl) ?_
  refine TL.yld rfl rfl (yld_move rfl rfl) ?_
  refine TL.eff rfl rfl (eff_buildSlice (c := (cInt .i64)) (xs := [a1_k]) (S := (Iv 0 0)) (uss := [(0, [.int .i64 a1_k])]) (out := [.int .i64 a1_k]) rfl Tryd.underlying46 in_2 rfl rfl (fillL_all [[.int .i64 a1_k]] rfl rfl rfl) rfl rfl rfl rfl (one_rep (uss := [[.int .i64 a1_k]]) (show reps _ _ _ _ _ from ⟨rfl, trivial⟩) rfl) (fun k h => by have := h.2; omega) rfl) ?_
  rintro v3 w4 ⟨g5, hv6, hg7, hz8, hx9, hs10⟩
  have he11 : Ext w w4 := Ext.trans he0 hx9
  have hz12 := (hx9).size
  have hlo13 : w.heap.size ≤ g5 := by rw [hg7]; exact (he0).size
  have hbd14 := bd_of hv6
  clear hv6
  obtain ⟨r16, hr17, hF⟩ := bsome hF
  refine TL.eff rfl rfl (eff_call rfl gf_54 rfl (W_impl_clockCode hr17 ((slRep.old ha2 he11 (Nat.le_refl _)).wide (Nat.le_refl _) (he11).size) (ownR.slf hs10 (Nat.zero_le _) (Nat.le_refl _)))) ?_
  rintro _ w18 ⟨rfl, hx19⟩
  have he20 : Ext w w18 := Ext.trans he11 hx19
  have hs10 := ownR.ext hs10 hx19
  have hz21 := (hx19).size
  refine TL.yld rfl rfl (yld_assign rfl rfl) ?_
  refine TL.done ?_
  refine NX.seq ?_
  refine WC.seq ?_
  refine WC.block ?_
  refine WC.seq ?_
  refine WC.region ?_
  refine TL.yld rfl rfl (yld_move rfl rfl) ?_
  refine TL.yld rfl rfl (yld_neq rfl rfl rfl) ?_
  refine TL.yld rfl rfl (yld_assign rfl rfl) ?_
  refine TL.done ?_
  refine NX.seq ?_
  refine WC.cond rfl ?_ ?_
  · intro hc22
    replace hF := bif_t hc22 hF
    refine WC.seq ?_
    refine WC.region ?_
    refine TL.yld rfl rfl (yld_move rfl rfl) ?_
    refine TL.yld rfl rfl (yld_assign rfl rfl) ?_
    refine TL.yld rfl rfl (yld_assign rfl rfl) ?_
    refine TL.done ?_
    refine NX.seq ?_
    refine WC.ret' ?_
    refine NX.blk_r ?_
    refine NX.then_r ?_
    obtain rfl := Option.some.inj hF
    exact NX.end (rs := [.tmp 6, .tmp 7]) (vs := [.int .i64 0, .int .i64 r16]) rfl ⟨rfl, rfl, trivial⟩ ⟨_, rfl, rfl, he20⟩
  · intro hc23
    replace hF := bif_f hc23 hF
    refine WC.seq ?_
    refine WC.region ?_
    refine TL.yld rfl rfl (yld_move rfl rfl) ?_
    obtain ⟨r24, hr25, hF⟩ := bsome hF
    refine TL.eff rfl rfl (eff_call rfl gf_64 rfl (W_impl_isTime hr25)) ?_
    rintro _ w26 ⟨rfl, hx27⟩
    have he28 : Ext w w26 := Ext.trans he20 hx27
    have hs10 := ownR.ext hs10 hx27
    have hz29 := (hx27).size
    refine TL.yld rfl rfl (yld_not rfl rfl) ?_
    refine TL.yld rfl rfl (yld_assign rfl rfl) ?_
    refine TL.done ?_
    refine NX.seq ?_
    refine WC.cond rfl ?_ ?_
    · intro hc30
      replace hF := bif_t hc30 hF
      refine WC.seq ?_
      refine WC.region ?_
      refine TL.yld rfl rfl (yld_assign rfl rfl) ?_
      refine TL.yld rfl rfl (yld_assign rfl rfl) ?_
      refine TL.done ?_
      refine NX.seq ?_
      refine WC.ret' ?_
      refine NX.blk_r ?_
      refine NX.then_r ?_
      obtain rfl := Option.some.inj hF
      exact NX.end (rs := [.tmp 6, .tmp 7]) (vs := [.int .i64 0, .int .i64 2]) rfl ⟨rfl, rfl, trivial⟩ ⟨_, rfl, rfl, he28⟩
    · intro hc31
      replace hF := bif_f hc31 hF
      refine WC.skip' ?_
      refine NX.blk_n ?_
      refine NX.seq ?_
      refine WC.seq ?_
      refine WC.region ?_
      refine TL.yld rfl rfl (yld_move rfl rfl) ?_
      refine TL.yld rfl rfl (yld_move rfl rfl) ?_
      obtain ⟨r32, hr33, hF⟩ := bsome hF
      refine TL.eff rfl rfl (eff_call rfl gf_55 rfl (W_impl_waveOf hr33 ((slRep.old ha2 he28 (Nat.le_refl _)).wide (Nat.le_refl _) (he28).size))) ?_
      rintro _ w34 ⟨rfl, hx35⟩
      have he36 : Ext w w34 := Ext.trans he28 hx35
      have hs10 := ownR.ext hs10 hx35
      have hz37 := (hx35).size
      refine TL.eff rfl rfl (eff_alloc rfl zn_71) ?_
      rintro _ w39 ⟨b38, rfl, hn40⟩
      obtain ⟨hn40e, hn40s, hn40x, hb41⟩ := hn40
      have hb41 : Box w39 b38 [.int .i64 0, .int .i64 0, .int .i64 0] 71 := hb41
      have he43 : Ext w w39 := Ext.trans he36 hn40x
      have hs10 := ownR.ext hs10 hn40x
      have hz44 := (hn40x).size
      have hlo42 : w.heap.size ≤ b38 := by rw [hn40e]; exact (he36).size
      refine TL.eff rfl rfl (eff_store rfl rfl rfl hb41 cn_71 rfl rfl) ?_
      rintro _ w45 ⟨hu46, hb47⟩
      have he48 : Ext w w45 := Below.trans he43 (Upd.below hu46 (by omega))
      have hs10 := ownR.upd hs10 hu46 (fun g hg => by have := hbd14 g hg; omega)
      have hz49 := (hu46).size
      have hb41 : Box w45 b38 [.int .i64 r32.period_, .int .i64 r32.edges_.e0, .int .i64 r32.edges_.e1] 71 := hb47
      refine TL.done ?_
      refine NX.seq ?_
      refine WC.seq ?_
      refine WC.seq ?_
      refine WC.quiet Tryd.hm (by kernel_rfl) ?_
      refine QL.yld rfl rfl (Yld.qui (yld_move rfl rfl)) ?_
      refine QL.yld rfl rfl (Yld.qui (yld_fieldAddr rfl fo_71_1 rfl)) ?_
      refine QL.yld rfl rfl (Yld.qui (yld_indexArr rfl Tryd.underlying69 cn_2 rfl rfl (by decide))) ?_
      refine QL.yld rfl rfl (Yld.qui (yld_load1 1 rfl ag_2 rfl (Box.cells hb41) rfl rfl)) ?_
      refine QL.yld rfl rfl (Yld.qui (yld_sub rfl rfl rfl)) ?_
      refine QL.yld rfl rfl (Yld.qui (yld_fieldAddr rfl fo_71_0 rfl)) ?_
      refine QL.yld rfl rfl (Yld.qui (yld_load1 0 rfl ag_2 rfl (Box.cells hb41) rfl rfl)) ?_
      obtain ⟨r50, hr51, hF⟩ := bsome hF
      refine QL.yld rfl rfl (qui_call rfl gf_66 rfl fun w' hw' => W_impl_modulo hr51) ?_
      refine QL.yld rfl rfl (Yld.qui (yld_move rfl rfl)) ?_
      refine QL.yld rfl rfl (Yld.qui (yld_fieldAddr rfl fo_71_1 rfl)) ?_
      refine QL.yld rfl rfl (Yld.qui (yld_indexArr rfl Tryd.underlying69 cn_2 rfl rfl (by decide))) ?_
      refine QL.yld rfl rfl (Yld.qui (yld_load1 2 rfl ag_2 rfl (Box.cells hb41) rfl rfl)) ?_
      refine QL.yld rfl rfl (Yld.qui (yld_sub rfl rfl rfl)) ?_
      refine QL.yld rfl rfl (Yld.qui (yld_fieldAddr rfl fo_71_0 rfl)) ?_
      refine QL.yld rfl rfl (Yld.qui (yld_load1 0 rfl ag_2 rfl (Box.cells hb41) rfl rfl)) ?_
      obtain ⟨r52, hr53, hF⟩ := bsome hF
      refine QL.yld rfl rfl (qui_call rfl gf_66 rfl fun w' hw' => W_impl_modulo hr53) ?_
      refine QL.yld rfl rfl (Yld.qui (yld_lss rfl rfl rfl)) ?_
      refine QL.done fun w54 hx55 => ?_
      have he56 : Ext w w54 := Ext.trans he48 hx55
      have hb41 := Box.ext hb41 hx55
      have hs10 := ownR.ext hs10 hx55
      have hz57 := (hx55).size
      refine NX.seq ?_
      refine WC.cond rfl ?_ ?_
      · intro hc58
        replace hF := bif_t hc58 hF
        refine WC.seq ?_
        refine WC.region ?_
        refine TL.yld rfl rfl (yld_assign rfl rfl) ?_
        refine TL.yld rfl rfl (yld_assign rfl rfl) ?_
        refine TL.done ?_
        refine NX.seq ?_
        refine WC.ret' ?_
        refine NX.then_r ?_
        obtain rfl := Option.some.inj hF
        exact NX.end (rs := [.tmp 6, .tmp 7]) (vs := [.int .i64 1, .int .i64 0]) rfl ⟨rfl, rfl, trivial⟩ ⟨_, rfl, rfl, he56⟩
      · intro hc59
        replace hF := bif_f hc59 hF
        refine WC.skip' ?_
        refine NX.seq ?_
        refine WC.seq ?_
        refine WC.region ?_
        refine TL.yld rfl rfl (yld_assign rfl rfl) ?_
        refine TL.yld rfl rfl (yld_assign rfl rfl) ?_
        refine TL.done ?_
        refine NX.seq ?_
        refine WC.ret' ?_
        obtain rfl := Option.some.inj hF
        exact NX.end (rs := [.tmp 6, .tmp 7]) (vs := [.int .i64 0, .int .i64 0]) rfl ⟨rfl, rfl, trivial⟩ ⟨_, rfl, rfl, he56⟩

-- loop.example/g00861/impl.isTransition
def F_impl_isTransition (n : Nat) (a0_n : Int) : Option Bool := (some ((((a0_n == 0)) || ((a0_n == 1)))))
set_option maxHeartbeats 40000000 in
theorem W_impl_isTransition {n : Nat} {a0_n : Int} {r : Bool} {w : World} (hF : F_impl_isTransition n a0_n = some r) :
    Calls Tryd.prog 63 [.int .i64 a0_n].toArray w (Ret fun u w2 => u = .bool r ∧ Ext w w2) := by
  refine calls_of Tryd.func63 rfl Tryd.ntmps63 ?_
  have he0 : Ext w w := Ext.refl w
  unfold F_impl_isTransition at hF
  refine WC.seq ?_
  refine WC.region ?_
  refine TL.yld rfl rfl (yld_assign rfl rfl) ?_
  refine TL.done ?_
  refine NX.seq ?_
  refine WC.seq ?_
  refine WC.region ?_
  refine TL.yld rfl rfl (yld_move rfl rfl) ?_
  refine TL.yld rfl rfl (yld_eql rfl rfl rfl) ?_
  refine TL.yld rfl rfl (yld_move rfl rfl) ?_
  refine TL.cut 3 [(8, .bool ((((a0_n == 0)) || ((a0_n == 1)))))] (fun w' => Ext w w') ?_ ?_
  · rcases Bool.eq_false_or_eq_true ((a0_n == 0)) with hg1 | hg1
    ·
      refine TL.gnu (j := 2) (t := 5) rfl rfl rfl hg1 rfl ?_
      refine TL.gnu (j := 2) (t := 5) rfl rfl rfl hg1 rfl ?_
      refine TL.yld rfl rfl (yld_or_t (b2 := (a0_n == 1)) rfl rfl hg1 rfl) ?_
      exact TL.nil fun a h => ⟨h.weaken ⟨rfl, trivial⟩, Ext.refl _⟩
    ·
      refine TL.gy (j := 2) (t := 5) rfl rfl rfl hg1 rfl (yld_move rfl rfl) ?_
      refine TL.gy (j := 2) (t := 5) rfl rfl rfl hg1 rfl (yld_eql rfl rfl rfl) ?_
      refine TL.yld rfl rfl (yld_or_f rfl rfl hg1 rfl) ?_
      exact TL.nil fun a h => ⟨h.weaken ⟨rfl, trivial⟩, Ext.refl _⟩
  intro w2 hx3
  have he4 : Ext w w2 := Ext.trans he0 hx3
  have hz5 := (hx3).size
  refine TL.yld rfl rfl (yld_assign rfl rfl) ?_
  refine TL.done ?_
  refine NX.seq ?_
  refine WC.ret' ?_
  obtain rfl := Option.some.inj hF
  exact NX.end (rs := [.tmp 2]) (vs := [.bool ((((a0_n == 0)) || ((a0_n == 1))))]) rfl ⟨rfl, trivial⟩ ⟨_, rfl, rfl, he4⟩

-- (loop.example/g00861/impl.wave).next
def F_impl_wave_next (n : Nat) (a0_w : S_wave) (a1_edge : Int) (a2_time : Int) : Option Int := (Option.bind (getI ([a0_w.edges_.e0, a0_w.edges_.e1] : List Int) a1_edge) fun x8 => (Option.bind (F_impl_modulo n (IntKind.wrap IntKind.i64 (x8 - a2_time)) a0_w.period_) fun r10 => (some (IntKind.wrap IntKind.i64 (a2_time + r10)))))
set_option maxHeartbeats 40000000 in
theorem W_impl_wave_next {n : Nat} {a0_w : S_wave} {a1_edge : Int} {a2_time : Int} {r : Int} {w : World} (hF : F_impl_wave_next n a0_w a1_edge a2_time = some r) :
    Calls Tryd.prog 65 [.agg #[.int .i64 a0_w.period_, .int .i64 a0_w.edges_.e0, .int .i64 a0_w.edges_.e1], .int .i64 a1_edge, .int .i64 a2_time].toArray w (Ret fun u w2 => u = .int .i64 r ∧ Ext w w2) := by
  refine calls_of Tryd.func65 rfl Tryd.ntmps65 ?_
  have he0 : Ext w w := Ext.refl w
  unfold F_impl_wave_next at hF
  refine WC.seq ?_
  refine WC.region ?_
  refine TL.eff rfl rfl (eff_box rfl rfl) ?_
  rintro _ w2 ⟨b1, rfl, hn3⟩
  obtain ⟨hn3e, hn3s, hn3x, hb4⟩ := hn3
  have hb4 : Box w2 b1 [.int .i64 a0_w.period_, .int .i64 a0_w.edges_.e0, .int .i64 a0_w.edges_.e1] 71 := hb4
  have he6 : Ext w w2 := Ext.trans he0 hn3x
  have hz7 := (hn3x).size
  have hlo5 : w.heap.size ≤ b1 := by rw [hn3e]; exact (he0).size
  refine TL.yld rfl rfl (yld_assign rfl rfl) ?_
  refine TL.done ?_
  refine NX.seq ?_
  refine WC.seq ?_
  refine WC.quiet Tryd.hm (by kernel_rfl) ?_
  refine QL.yld rfl rfl (Yld.qui (yld_move rfl rfl)) ?_
  refine QL.yld rfl rfl (Yld.qui (yld_move rfl rfl)) ?_
  refine QL.yld rfl rfl (Yld.qui (yld_fieldAddr rfl fo_71_1 rfl)) ?_
  obtain ⟨x8, hy9, hF⟩ := bsome hF
  refine QL.yld rfl rfl (Yld.qui (yld_indexArr rfl Tryd.underlying69 cn_2 rfl rfl (getI_rng hy9))) ?_
  refine QL.yld rfl rfl (Yld.qui (yld_loadI 1 [a0_w.edges_.e0, a0_w.edges_.e1] rfl ag_2 rfl (Box.cells hb4) (by omega) rfl hy9)) ?_
  refine QL.yld rfl rfl (Yld.qui (yld_move rfl rfl)) ?_
  refine QL.yld rfl rfl (Yld.qui (yld_sub rfl rfl rfl)) ?_
  refine QL.yld rfl rfl (Yld.qui (yld_fieldAddr rfl fo_71_0 rfl)) ?_
  refine QL.yld rfl rfl (Yld.qui (yld_load1 0 rfl ag_2 rfl (Box.cells hb4) rfl rfl)) ?_
  obtain ⟨r10, hr11, hF⟩ := bsome hF
  refine QL.yld rfl rfl (qui_call rfl gf_66 rfl fun w' hw' => W_impl_modulo hr11) ?_
  refine QL.yld rfl rfl (Yld.qui (yld_add rfl rfl rfl)) ?_
  refine QL.yld rfl rfl (Yld.qui (yld_assign rfl rfl)) ?_
  refine QL.done fun w12 hx13 => ?_
  have he14 : Ext w w12 := Ext.trans he6 hx13
  have hb4 := Box.ext hb4 hx13
  have hz15 := (hx13).size
  refine NX.seq ?_
  refine WC.ret' ?_
  obtain rfl := Option.some.inj hF
  exact NX.end (rs := [.tmp 6]) (vs := [.int .i64 (IntKind.wrap IntKind.i64 (a2_time + r10))]) rfl ⟨rfl, trivial⟩ ⟨_, rfl, rfl, he14⟩

-- loop.example/g00861/impl.EdgesIn
def F_impl_EdgesIn_L1 (a4_to : Int) (r58 : S_wave) (k1 : (List Int) → Int → Option ((List Int) × Int)) : Nat → (List Int) → Int → Option ((List Int) × Int)
  | 0 => fun _ _ => none
  | m + 1 => fun l87 i91 => (bif decide (i91 ≤ a4_to) then (bif (((l87.length : Int)) == 200) then (some (([] : List Int), 3)) else (Option.bind (appN l87 [i91] 8) fun z110 => (F_impl_EdgesIn_L1 a4_to r58 k1 m z110 (IntKind.wrap IntKind.i64 (i91 + r58.period_))))) else (k1 l87 i91))
theorem F_impl_EdgesIn_L1_z (a4_to : Int) (r58 : S_wave) (k1 : (List Int) → Int → Option ((List Int) × Int)) (l87 : List Int) (i91 : Int) : F_impl_EdgesIn_L1 a4_to r58 k1 0 l87 i91 = none := rfl
theorem F_impl_EdgesIn_L1_s (m : Nat) (a4_to : Int) (r58 : S_wave) (k1 : (List Int) → Int → Option ((List Int) × Int)) (l87 : List Int) (i91 : Int) : F_impl_EdgesIn_L1 a4_to r58 k1 (m + 1) l87 i91 = (bif decide (i91 ≤ a4_to) then (bif (((l87.length : Int)) == 200) then (some (([] : List Int), 3)) else (Option.bind (appN l87 [i91] 8) fun z110 => (F_impl_EdgesIn_L1 a4_to r58 k1 m z110 (IntKind.wrap IntKind.i64 (i91 + r58.period_))))) else (k1 l87 i91)) := rfl

def F_impl_EdgesIn (n : Nat) (a0_list : List S_Clock) (a1_k : Int) (a2_edge : Int) (a3_from : Int) (a4_to : Int) : Option ((List Int) × Int) := (Option.bind (F_impl_clockCode n a0_list [a1_k]) fun r16 => (bif (r16 != 0) then (some (([] : List Int), r16)) else (Option.bind (F_impl_isTransition n a2_edge) fun r24 => (Option.bind (bif (!r24) then (some true) else (Option.bind (F_impl_isTime n a3_from) fun r30 => (some (!r30)))) fun c30 => (Option.bind (bif c30 then (some true) else (Option.bind (F_impl_isTime n a4_to) fun r43 => (some (!r43)))) fun c43 => (bif c43 then (some (([] : List Int), 2)) else (Option.bind (F_impl_waveOf n a0_list a1_k) fun r58 => (Option.bind (F_impl_wave_next n r58 a2_edge a3_from) fun r76 => (F_impl_EdgesIn_L1 a4_to r58 (fun l87 i91 => (some (l87, 0))) n (([] : List Int)) r76)))))))))
set_option maxHeartbeats 40000000 in
theorem W_impl_EdgesIn {n : Nat} {a0_list : List S_Clock} {a1_k : Int} {a2_edge : Int} {a3_from : Int} {a4_to : Int} {r : (List Int) × Int} {w : World} {v1 : Value} (hF : F_impl_EdgesIn n a0_list a1_k a2_edge a3_from a4_to = some r) (ha2 : slRep C_Clock w (Iv 0 w.heap.size) a0_list v1) :
    Calls Tryd.prog 35 [v1, .int .i64 a1_k, .int .i64 a2_edge, .int .i64 a3_from, .int .i64 a4_to].toArray w (Ret fun u w2 => ∃ v0_0, u = .tuple #[v0_0, .int .i64 r.2] ∧ ownR (cInt .i64) w2 w.heap.size (Iv 0 0) 2 r.1 v0_0 ∧ Ext w w2) := by
  refine calls_of Tryd.func35 rfl Tryd.ntmps35 ?_
  have he0 : Ext w w := Ext.refl w
  unfold F_impl_EdgesIn at hF
  refine WC.seq ?_
  refine WC.region ?_
  refine TL.yld rfl rfl (yld_assign rfl rfl) ?_
  refine TL.yld rfl rfl (yld_assign rfl rfl) ?_
  refine TL.done ?_
  refine NX.seq ?_
  refine WC.seq ?_
  refine WC.region ?_
  refine TL.yld rfl rfl (yld_move rfl rfl) ?_
  refine TL.yld rfl rfl (yld_move rfl rfl) ?_
  refine TL.eff rfl rfl (eff_buildSlice (c := (cInt .i64)) (xs := [a1_k]) (S := (Iv 0 0)) (uss := [(0, [.int .i64 a1_k])]) (out := [.int .i64 a1_k]) rfl Tryd.underlying46 in_2 rfl rfl (fillL_all [[.int .i64 a1_k]] rfl rfl rfl) rfl rfl rfl rfl (one_rep (uss := [[.int .i64 a1_k]]) (show reps _ _ _ _ _ from ⟨rfl, trivial⟩) rfl) (fun k h => by have := h.2; omega) rfl) ?_
  rintro v3 w4 ⟨g5, hv6, hg7, hz8, hx9, hs10⟩
  have he11 : Ext w w4 := Ext.trans he0 hx9
  have hz12 := (hx9).size
  have hlo13 : w.heap.size ≤ g5 := by rw [hg7]; exact (he0).size
  have hbd14 := bd_of hv6
  clear hv6
  obtain ⟨r16, hr17, hF⟩ := bsome hF
  refine TL.eff rfl rfl (eff_call rfl gf_54 rfl (W_impl_clockCode hr17 ((slRep.old ha2 he11 (Nat.le_refl _)).wide (Nat.le_refl _) (he11).size) (ownR.slf hs10 (Nat.zero_le _) (Nat.le_refl _)))) ?_
  rintro _ w18 ⟨rfl, hx19⟩
  have he20 : Ext w w18 := Ext.trans he11 hx19
  have hs10 := ownR.ext hs10 hx19
  have hz21 := (hx19).size
  refine TL.yld rfl rfl (yld_assign rfl rfl) ?_
  refine TL.done ?_
  refine NX.seq ?_
  refine WC.seq ?_
  refine WC.block ?_
  refine WC.seq ?_
  refine WC.region ?_
  refine TL.yld rfl rfl (yld_move rfl rfl) ?_
  refine TL.yld rfl rfl (yld_neq rfl rfl rfl) ?_
  refine TL.yld rfl rfl (yld_assign rfl rfl) ?_
  refine TL.done ?_
  refine NX.seq ?_
  refine WC.cond rfl ?_ ?_
  · intro hc22
    replace hF := bif_t hc22 hF
    refine WC.seq ?_
    refine WC.region ?_
    refine TL.yld rfl rfl (yld_move rfl rfl) ?_
    refine TL.yld rfl rfl (yld_assign rfl rfl) ?_
    refine TL.yld rfl rfl (yld_assign rfl rfl) ?_
    refine TL.done ?_
    refine NX.seq ?_
    refine WC.ret' ?_
    refine NX.blk_r ?_
    refine NX.then_r ?_
    obtain rfl := Option.some.inj hF
    exact NX.end (rs := [.tmp 10, .tmp 11]) (vs := [.slice none 0 0, .int .i64 r16]) rfl ⟨rfl, rfl, trivial⟩ ⟨_, rfl, _, rfl, ownR.nil _ _ _ _ _, he20⟩
  · intro hc23
    replace hF := bif_f hc23 hF
    refine WC.seq ?_
    refine WC.region ?_
    refine TL.yld rfl rfl (yld_move rfl rfl) ?_
    obtain ⟨r24, hr25, hF⟩ := bsome hF
    refine TL.eff rfl rfl (eff_call rfl gf_63 rfl (W_impl_isTransition hr25)) ?_
    rintro _ w26 ⟨rfl, hx27⟩
    have he28 : Ext w w26 := Ext.trans he20 hx27
    have hs10 := ownR.ext hs10 hx27
    have hz29 := (hx27).size
    refine TL.yld rfl rfl (yld_not rfl rfl) ?_
    refine TL.yld rfl rfl (yld_move rfl rfl) ?_
    obtain ⟨c30, hb31, hF⟩ := bsome hF
    refine TL.cut 4 [(0, v1), (1, .int .i64 a1_k), (2, .int .i64 a2_edge), (3, .int .i64 a3_from), (4, .int .i64 a4_to), (32, .bool c30)] (fun w' => Ext w26 w') ?_ ?_
    · rcases Bool.eq_false_or_eq_true (!r24) with hg32 | hg32
      ·
        rw [hg32] at hb31; simp only [cond_true, cond_false] at hb31
        refine TL.gnu (j := 3) (t := 28) rfl rfl rfl hg32 rfl ?_
        refine TL.gnu (j := 3) (t := 28) rfl rfl rfl hg32 rfl ?_
        refine TL.gnu (j := 3) (t := 28) rfl rfl rfl hg32 rfl ?_
        obtain rfl := Option.some.inj hb31
        refine TL.yld rfl rfl (yld_pick_t rfl rfl hg32 rfl) ?_
        exact TL.nil fun a h => ⟨h.weaken ⟨rfl, rfl, rfl, rfl, rfl, rfl, trivial⟩, Ext.refl _⟩
      ·
        rw [hg32] at hb31; simp only [cond_true, cond_false] at hb31
        replace hF := hb31
        refine TL.gy (j := 3) (t := 28) rfl rfl rfl hg32 rfl (yld_move rfl rfl) ?_
        obtain ⟨r33, hr34, hF⟩ := bsome hF
        refine TL.ge (j := 3) (t := 28) rfl rfl rfl hg32 rfl (eff_call rfl gf_64 rfl (W_impl_isTime hr34)) ?_
        rintro _ w35 ⟨rfl, hx36⟩
        have he37 : Ext w w35 := Ext.trans he28 hx36
        have hs10 := ownR.ext hs10 hx36
        have hz38 := (hx36).size
        refine TL.gy (j := 3) (t := 28) rfl rfl rfl hg32 rfl (yld_not rfl rfl) ?_
        obtain rfl := Option.some.inj hF
        refine TL.yld rfl rfl (yld_pick_f rfl rfl hg32 rfl) ?_
        exact TL.nil fun a h => ⟨h.weaken ⟨rfl, rfl, rfl, rfl, rfl, rfl, trivial⟩, hx36⟩
    intro w39 hx40
    have he41 : Ext w w39 := Ext.trans he28 hx40
    have hs10 := ownR.ext hs10 hx40
    have hz42 := (hx40).size
    refine TL.yld rfl rfl (yld_move rfl rfl) ?_
    obtain ⟨c43, hb44, hF⟩ := bsome hF
    refine TL.cut 4 [(0, v1), (1, .int .i64 a1_k), (2, .int .i64 a2_edge), (3, .int .i64 a3_from), (4, .int .i64 a4_to), (37, .bool c43)] (fun w' => Ext w39 w') ?_ ?_
    · rcases Bool.eq_false_or_eq_true c30 with hg45 | hg45
      ·
        rw [hg45] at hb44; simp only [cond_true, cond_false] at hb44
        refine TL.gnu (j := 8) (t := 33) rfl rfl rfl hg45 rfl ?_
        refine TL.gnu (j := 8) (t := 33) rfl rfl rfl hg45 rfl ?_
        refine TL.gnu (j := 8) (t := 33) rfl rfl rfl hg45 rfl ?_
        obtain rfl := Option.some.inj hb44
        refine TL.yld rfl rfl (yld_pick_t rfl rfl hg45 rfl) ?_
        exact TL.nil fun a h => ⟨h.weaken ⟨rfl, rfl, rfl, rfl, rfl, rfl, trivial⟩, Ext.refl _⟩
      ·
        rw [hg45] at hb44; simp only [cond_true, cond_false] at hb44
        replace hF := hb44
        refine TL.gy (j := 8) (t := 33) rfl rfl rfl hg45 rfl (yld_move rfl rfl) ?_
        obtain ⟨r46, hr47, hF⟩ := bsome hF
        refine TL.ge (j := 8) (t := 33) rfl rfl rfl hg45 rfl (eff_call rfl gf_64 rfl (W_impl_isTime hr47)) ?_
        rintro _ w48 ⟨rfl, hx49⟩
        have he50 : Ext w w48 := Ext.trans he41 hx49
        have hs10 := ownR.ext hs10 hx49
        have hz51 := (hx49).size
        refine TL.gy (j := 8) (t := 33) rfl rfl rfl hg45 rfl (yld_not rfl rfl) ?_
        obtain rfl := Option.some.inj hF
        refine TL.yld rfl rfl (yld_pick_f rfl rfl hg45 rfl) ?_
        exact TL.nil fun a h => ⟨h.weaken ⟨rfl, rfl, rfl, rfl, rfl, rfl, trivial⟩, hx49⟩
    intro w52 hx53
    have he54 : Ext w w52 := Ext.trans he41 hx53
    have hs10 := ownR.ext hs10 hx53
    have hz55 := (hx53).size
    refine TL.yld rfl rfl (yld_assign rfl rfl) ?_
    refine TL.done ?_
    refine NX.seq ?_
    refine WC.cond rfl ?_ ?_
    · intro hc56
      replace hF := bif_t hc56 hF
      refine WC.seq ?_
      refine WC.region ?_
      refine TL.yld rfl rfl (yld_assign rfl rfl) ?_
      refine TL.yld rfl rfl (yld_assign rfl rfl) ?_
      refine TL.done ?_
      refine NX.seq ?_
      refine WC.ret' ?_
      refine NX.blk_r ?_
      refine NX.then_r ?_
      obtain rfl := Option.some.inj hF
      exact NX.end (rs := [.tmp 10, .tmp 11]) (vs := [.slice none 0 0, .int .i64 2]) rfl ⟨rfl, rfl, trivial⟩ ⟨_, rfl, _, rfl, ownR.nil _ _ _ _ _, he54⟩
    · intro hc57
      replace hF := bif_f hc57 hF
      refine WC.skip' ?_
      refine NX.blk_n ?_
      refine NX.seq ?_
      refine WC.seq ?_
      refine WC.region ?_
      refine TL.yld rfl rfl (yld_move rfl rfl) ?_
      refine TL.yld rfl rfl (yld_move rfl rfl) ?_
      obtain ⟨r58, hr59, hF⟩ := bsome hF
      refine TL.eff rfl rfl (eff_call rfl gf_55 rfl (W_impl_waveOf hr59 ((slRep.old ha2 he54 (Nat.le_refl _)).wide (Nat.le_refl _) (he54).size))) ?_
      rintro _ w60 ⟨rfl, hx61⟩
      have he62 : Ext w w60 := Ext.trans he54 hx61
      have hs10 := ownR.ext hs10 hx61
      have hz63 := (hx61).size
      refine TL.eff rfl rfl (eff_alloc rfl zn_71) ?_
      rintro _ w65 ⟨b64, rfl, hn66⟩
      obtain ⟨hn66e, hn66s, hn66x, hb67⟩ := hn66
      have hb67 : Box w65 b64 [.int .i64 0, .int .i64 0, .int .i64 0] 71 := hb67
      have he69 : Ext w w65 := Ext.trans he62 hn66x
      have hs10 := ownR.ext hs10 hn66x
      have hz70 := (hn66x).size
      have hlo68 : w.heap.size ≤ b64 := by rw [hn66e]; exact (he62).size
      refine TL.eff rfl rfl (eff_store rfl rfl rfl hb67 cn_71 rfl rfl) ?_
      rintro _ w71 ⟨hu72, hb73⟩
      have he74 : Ext w w71 := Below.trans he69 (Upd.below hu72 (by omega))
      have hs10 := ownR.upd hs10 hu72 (fun g hg => by have := hbd14 g hg; omega)
      have hz75 := (hu72).size
      have hb67 : Box w71 b64 [.int .i64 r58.period_, .int .i64 r58.edges_.e0, .int .i64 r58.edges_.e1] 71 := hb73
      refine TL.done ?_
      refine NX.seq ?_
      refine WC.seq ?_
      refine WC.region ?_
      refine TL.yld rfl rfl (yld_assign rfl rfl) ?_
      refine TL.done ?_
      refine NX.seq ?_
      refine WC.seq ?_
      refine WC.seq ?_
      refine WC.region ?_
      refine TL.yld rfl rfl (yld_loadN (us := [.int .i64 r58.period_, .int .i64 r58.edges_.e0, .int .i64 r58.edges_.e1]) rfl ag_71 rfl (Box.cells hb67) cn_71) ?_
      refine TL.yld rfl rfl (yld_move rfl rfl) ?_
      refine TL.yld rfl rfl (yld_move rfl rfl) ?_
      obtain ⟨r76, hr77, hF⟩ := bsome hF
      refine TL.eff rfl rfl (eff_call rfl gf_65 rfl (W_impl_wave_next hr77)) ?_
      rintro _ w78 ⟨rfl, hx79⟩
      have he80 : Ext w w78 := Ext.trans he74 hx79
      have hb67 := Box.ext hb67 hx79
      have hs10 := ownR.ext hs10 hx79
      have hz81 := (hx79).size
      refine TL.yld rfl rfl (yld_assign rfl rfl) ?_
      refine TL.done ?_
      refine NX.seq ?_
      refine WC.block ?_
      have hs84 : ownR (cInt .i64) w78 (w78.heap.size) (Iv 0 0) 2 [] (.slice none 0 0) := ownR.nil _ _ _ _ _
      have hbd85 : ∀ q, (Value.slice none 0 0).ownBlock = some q → w78.heap.size ≤ q ∧ q < w78.heap.size := bd_nil
      refine WC.loop (fun m94 a wl => ∃ (l87 : List Int) (v88 : Value) (i91 : Int), Kn 60 [(4, .int .i64 a4_to), (13, .pointer (some ⟨b64, 0, none⟩)), (14, v88), (15, .int .i64 i91)] a ∧ Ext w wl ∧ w78.heap.size ≤ wl.heap.size ∧ Box wl b64 [.int .i64 r58.period_, .int .i64 r58.edges_.e0, .int .i64 r58.edges_.e1] 71 ∧ ownR (cInt .i64) wl (w78.heap.size) (Iv 0 0) 2 l87 v88 ∧ (∀ q, v88.ownBlock = some q → w78.heap.size ≤ q ∧ q < wl.heap.size) ∧ (∀ g, v88.ownBlock = some g → g ≠ b64) ∧ F_impl_EdgesIn_L1 a4_to r58 (fun l87 i91 => (some (l87, 0))) m94 l87 i91 = some r) n ?_ ?_
      · intro a hK; exact ⟨(([] : List Int)), ((.slice none 0 0)), r76, hK.weaken ⟨rfl, rfl, rfl, rfl, trivial⟩, he80, Nat.le_refl _, hb67, hs84, (fun g hg => by have := hbd85 g hg; omega), (fun g hg => by have := hbd85 g hg; omega), hF⟩
      · rintro m94 a w82 ⟨l87, v88, i91, hK, he83, hz95, hb92, hs89, hbd90, hp93, hF⟩
        revert hK; revert a; refine (?_ : WC _ _ _ _ _ _)
        cases m94 with
        | zero => rw [F_impl_EdgesIn_L1_z] at hF; cases hF
        | succ m94 =>
          rw [F_impl_EdgesIn_L1_s] at hF
          refine WC.seq ?_
          refine WC.seq ?_
          refine WC.region ?_
          refine TL.yld rfl rfl (yld_move rfl rfl) ?_
          refine TL.yld rfl rfl (yld_move rfl rfl) ?_
          refine TL.yld rfl rfl (yld_leq rfl rfl rfl) ?_
          refine TL.done ?_
          refine NX.seq ?_
          refine WC.cond rfl ?_ ?_
          · intro hc96
            replace hF := bif_t hc96 hF
            refine WC.skip' ?_
            refine NX.seq ?_
            refine WC.seq ?_
            refine WC.block ?_
            refine WC.seq ?_
            refine WC.seq ?_
            refine WC.region ?_
            refine TL.yld rfl rfl (yld_move rfl rfl) ?_
            refine TL.yld rfl rfl (yld_len_own (c := (cInt .i64)) rfl Tryd.underlying46 rfl hs89) ?_
            refine TL.yld rfl rfl (yld_eql rfl rfl rfl) ?_
            refine TL.done ?_
            refine NX.seq ?_
            refine WC.cond rfl ?_ ?_
            · intro hc97
              replace hF := bif_t hc97 hF
              refine WC.seq ?_
              refine WC.region ?_
              refine TL.yld rfl rfl (yld_assign rfl rfl) ?_
              refine TL.yld rfl rfl (yld_assign rfl rfl) ?_
              refine TL.done ?_
              refine NX.seq ?_
              refine WC.ret' ?_
              refine NX.then_r ?_
              refine NX.blk_r ?_
              refine NX.then_r ?_
              refine NX.then_r ?_
              refine NX.blk_r ?_
              refine NX.then_r ?_
              obtain rfl := Option.some.inj hF
              exact NX.end (rs := [.tmp 10, .tmp 11]) (vs := [.slice none 0 0, .int .i64 3]) rfl ⟨rfl, rfl, trivial⟩ ⟨_, rfl, _, rfl, ownR.nil _ _ _ _ _, he83⟩
            · intro hc98
              replace hF := bif_f hc98 hF
              refine WC.skip' ?_
              refine NX.seq ?_
              refine WC.region ?_
              refine TL.yld rfl rfl (yld_move rfl rfl) ?_
              refine TL.yld rfl rfl (yld_move rfl rfl) ?_
              refine TL.eff rfl rfl (eff_buildSlice (c := (cInt .i64)) (xs := [i91]) (S := (Iv 0 0)) (uss := [(0, [.int .i64 i91])]) (out := [.int .i64 i91]) rfl Tryd.underlying46 in_2 rfl rfl (fillL_all [[.int .i64 i91]] rfl rfl rfl) rfl rfl rfl rfl (one_rep (uss := [[.int .i64 i91]]) (show reps _ _ _ _ _ from ⟨rfl, trivial⟩) rfl) (fun k h => by have := h.2; omega) rfl) ?_
              rintro v99 w100 ⟨g101, hv102, hg103, hz104, hx105, hs106⟩
              have he107 : Ext w w100 := Ext.trans he83 hx105
              have hb92 := Box.ext hb92 hx105
              have hs89 := ownR.ext hs89 hx105
              have hz108 := (hx105).size
              have hlo109 : w.heap.size ≤ g101 := by rw [hg103]; exact (he83).size
              have hbd110 := bd_of hv102
              clear hv102
              obtain ⟨z112, ha113, hF⟩ := bsome hF
              refine TL.eff rfl rfl (eff_appendF (c := (cInt .i64)) rfl Tryd.underlying46 in_2 rfl rfl rfl rfl rfl hs89 (by omega) (ownR.slf hs106 (Nat.le_refl _) (Nat.le_refl _)) ha113) ?_
              rintro v114 w115 ⟨hs116, hgr117⟩
              have he119 : Ext w w115 := Below.trans he107 (Grew.low hgr117 (fun g hg => by have := hbd90 g hg; omega) (he107).size)
              have hp120 : ∀ g, v114.ownBlock = some g → g ≠ b64 := Grew.sepP (p := fun g => g ≠ b64) hgr117 hp93 (fun g hg => by omega)
              have hb92 := Grew.box hgr117 hb92 hp93
              have hp121 : ∀ g q, v88.ownBlock = some g → v99.ownBlock = some q → g ≠ q := (fun g q hg hq => by have := hbd90 g hg; have := hbd110 q hq; omega)
              have hp122 : ∀ g q, v114.ownBlock = some g → v99.ownBlock = some q → g ≠ q := fun g q hg hq => Grew.sepP (p := fun g => ∀ q, v99.ownBlock = some q → g ≠ q) hgr117 (fun g hg q hq => (hp121) g q hg hq) (fun g hg q hq => by have := hbd110 q hq; omega) g hg q hq
              have hs106 := Grew.ownF hgr117 hs106 hp121
              have hz123 := (hgr117).1.size
              have hbd124 : ∀ g, v114.ownBlock = some g → w78.heap.size ≤ g ∧ g < w115.heap.size := Grew.bd hgr117 hs116 (fun g hg => ⟨by have := hbd90 g hg; omega, (hbd90 g hg).2⟩) (by omega) (by omega)
              refine TL.yld rfl rfl (yld_assign rfl rfl) ?_
              refine TL.done ?_
              refine NX.blk_n ?_
              refine NX.seq ?_
              refine WC.region ?_
              refine TL.yld rfl rfl (yld_move rfl rfl) ?_
              refine TL.yld rfl rfl (yld_fieldAddr rfl fo_71_0 rfl) ?_
              refine TL.yld rfl rfl (yld_load1 0 rfl ag_2 rfl (Box.cells hb92) rfl rfl) ?_
              refine TL.yld rfl rfl (yld_add rfl rfl rfl) ?_
              refine TL.yld rfl rfl (yld_assign rfl rfl) ?_
              refine TL.done ?_
              refine NX.then_n ?_
              intro a hK; exact ⟨m94, Nat.lt_succ_self m94, z112, v114, (IntKind.wrap IntKind.i64 (i91 + r58.period_)), hK.weaken ⟨rfl, rfl, rfl, rfl, trivial⟩, he119, (by omega), hb92, hs116, (fun g hg => by have := hbd124 g hg; omega), hp120, hF⟩
          · intro hc125
            replace hF := bif_f hc125 hF
            refine WC.exit' ?_
            refine NX.then_e ?_
            refine NX.then_e ?_
            refine NX.blk_hit ?_
            refine NX.seq ?_
            refine WC.seq ?_
            refine WC.region ?_
            refine TL.yld rfl rfl (yld_move rfl rfl) ?_
            refine TL.yld rfl rfl (yld_assign rfl rfl) ?_
            refine TL.yld rfl rfl (yld_assign rfl rfl) ?_
            refine TL.done ?_
            refine NX.seq ?_
            refine WC.ret' ?_
            obtain rfl := Option.some.inj hF
            exact NX.end (rs := [.tmp 10, .tmp 11]) (vs := [v88, .int .i64 0]) rfl ⟨rfl, rfl, trivial⟩ ⟨_, rfl, _, rfl, ownR.base hs89 (by omega), he83⟩

-- loop.example/g00861/spec.l01From
def F_spec_l01From_L1 (a0_code : List Int) (k0 : Int → Int → Int → Option S_l01Source) : Nat → Int → Int → Int → Option S_l01Source
  | 0 => fun _ _ _ => none
  | m + 1 => fun i12 i14 i15 => (bif ((decide (i12 < (a0_code.length : Int))) && (decide (i12 < 64))) then (Option.bind (getI a0_code i12) fun x22 => (F_spec_l01From_L1 a0_code k0 m (IntKind.wrap IntKind.i64 (i12 + 1)) i14 (Int.tmod (IntKind.wrap IntKind.i64 ((IntKind.wrap IntKind.i64 (i15 * 31)) + (IntKind.wrap IntKind.i64 x22))) 2147483647))) else (k0 i12 i14 i15))
theorem F_spec_l01From_L1_z (a0_code : List Int) (k0 : Int → Int → Int → Option S_l01Source) (i12 : Int) (i14 : Int) (i15 : Int) : F_spec_l01From_L1 a0_code k0 0 i12 i14 i15 = none := rfl
theorem F_spec_l01From_L1_s (m : Nat) (a0_code : List Int) (k0 : Int → Int → Int → Option S_l01Source) (i12 : Int) (i14 : Int) (i15 : Int) : F_spec_l01From_L1 a0_code k0 (m + 1) i12 i14 i15 = (bif ((decide (i12 < (a0_code.length : Int))) && (decide (i12 < 64))) then (Option.bind (getI a0_code i12) fun x22 => (F_spec_l01From_L1 a0_code k0 m (IntKind.wrap IntKind.i64 (i12 + 1)) i14 (Int.tmod (IntKind.wrap IntKind.i64 ((IntKind.wrap IntKind.i64 (i15 * 31)) + (IntKind.wrap IntKind.i64 x22))) 2147483647))) else (k0 i12 i14 i15)) := rfl

def F_spec_l01From (n : Nat) (a0_code : List Int) : Option S_l01Source := (F_spec_l01From_L1 a0_code (fun i12 i14 i15 => (some ((S_l01Source.mk a0_code i14 i15)))) n 0 0 12345)
set_option maxHeartbeats 40000000 in
theorem W_spec_l01From {n : Nat} {a0_code : List Int} {r : S_l01Source} {w : World} {v1 : Value} (hF : F_spec_l01From n a0_code = some r) (ha2 : slRep (cInt .u8) w (Iv 0 w.heap.size) a0_code v1) :
    Calls Tryd.prog 56 [v1].toArray w (Ret fun u w2 => ∃ b0, u = .pointer (some ⟨b0, 0, none⟩) ∧ Box w2 b0 [v1, .int .i64 r.at_, .int .i64 r.seed_] 90 ∧ w.heap.size ≤ b0 ∧ Ext w w2) := by
  refine calls_of Tryd.func56 rfl Tryd.ntmps56 ?_
  have he0 : Ext w w := Ext.refl w
  unfold F_spec_l01From at hF
  refine WC.seq ?_
  refine WC.region ?_
  refine TL.yld rfl rfl (yld_assign rfl rfl) ?_
  refine TL.done ?_
  refine NX.seq ?_
  refine WC.seq ?_
  refine WC.region ?_
  refine TL.yld rfl rfl (yld_move rfl rfl) ?_
  refine TL.yld rfl rfl (yld_build (uss := [(0, [v1]), (2, [.int .i64 12345])]) (out := [v1, .int .i64 0, .int .i64 12345]) rfl rfl zn_90 pl_90 (pt_cons (slRep.cl (slRep.old ha2 he0 (Nat.le_refl _))) (pt_cons rfl rfl)) rfl) ?_
  refine TL.eff rfl rfl (eff_box rfl rfl) ?_
  rintro _ w4 ⟨b3, rfl, hn5⟩
  obtain ⟨hn5e, hn5s, hn5x, hb6⟩ := hn5
  have hb6 : Box w4 b3 [v1, .int .i64 0, .int .i64 12345] 90 := hb6
  have he8 : Ext w w4 := Ext.trans he0 hn5x
  have hz9 := (hn5x).size
  have hlo7 : w.heap.size ≤ b3 := by rw [hn5e]; exact (he0).size
  refine TL.yld rfl rfl (yld_assign rfl rfl) ?_
  refine TL.done ?_
  refine NX.seq ?_
  refine WC.seq ?_
  refine WC.seq ?_
  refine WC.region ?_
  refine TL.yld rfl rfl (yld_assign rfl rfl) ?_
  refine TL.done ?_
  refine NX.seq ?_
  refine WC.block ?_
  refine WC.loop (fun m16 a wl => ∃ (i12 : Int) (i14 : Int) (i15 : Int), Kn 34 [(0, v1), (3, .pointer (some ⟨b3, 0, none⟩)), (4, .int .i64 i12)] a ∧ Ext w wl ∧ w4.heap.size ≤ wl.heap.size ∧ Box wl b3 [v1, .int .i64 i14, .int .i64 i15] 90 ∧ F_spec_l01From_L1 a0_code (fun i12 i14 i15 => (some ((S_l01Source.mk a0_code i14 i15)))) m16 i12 i14 i15 = some r) n ?_ ?_
  · intro a hK; exact ⟨0, 0, 12345, hK.weaken ⟨rfl, rfl, rfl, trivial⟩, he8, Nat.le_refl _, hb6, hF⟩
  · rintro m16 a w10 ⟨i12, i14, i15, hK, he11, hz17, hb13, hF⟩
    revert hK; revert a; refine (?_ : WC _ _ _ _ _ _)
    cases m16 with
    | zero => rw [F_spec_l01From_L1_z] at hF; cases hF
    | succ m16 =>
      rw [F_spec_l01From_L1_s] at hF
      refine WC.seq ?_
      refine WC.seq ?_
      refine WC.region ?_
      refine TL.yld rfl rfl (yld_move rfl rfl) ?_
      refine TL.yld rfl rfl (yld_move rfl rfl) ?_
      refine TL.yld rfl rfl (ye_len (c := (cInt .u8)) rfl Tryd.underlying32 rfl (slRep.old ha2 he11 (Nat.le_refl _))) ?_
      refine TL.yld rfl rfl (yld_lss rfl rfl rfl) ?_
      refine TL.yld rfl rfl (yld_move rfl rfl) ?_
      refine TL.cut 3 [(0, v1), (3, .pointer (some ⟨b3, 0, none⟩)), (4, .int .i64 i12), (15, .bool (((decide (i12 < (a0_code.length : Int))) && (decide (i12 < 64)))))] (fun w' => Ext w10 w') ?_ ?_
      · rcases Bool.eq_false_or_eq_true (decide (i12 < (a0_code.length : Int))) with hg18 | hg18
        ·
          refine TL.gy (j := 4) (t := 12) rfl rfl rfl hg18 rfl (yld_move rfl rfl) ?_
          refine TL.gy (j := 4) (t := 12) rfl rfl rfl hg18 rfl (yld_lss rfl rfl rfl) ?_
          refine TL.yld rfl rfl (yld_and_t rfl rfl hg18 rfl) ?_
          exact TL.nil fun a h => ⟨h.weaken ⟨rfl, rfl, rfl, rfl, trivial⟩, Ext.refl _⟩
        ·
          refine TL.gnu (j := 4) (t := 12) rfl rfl rfl hg18 rfl ?_
          refine TL.gnu (j := 4) (t := 12) rfl rfl rfl hg18 rfl ?_
          refine TL.yld rfl rfl (yld_and_f (b2 := decide (i12 < 64)) rfl rfl hg18 rfl) ?_
          exact TL.nil fun a h => ⟨h.weaken ⟨rfl, rfl, rfl, rfl, trivial⟩, Ext.refl _⟩
      intro w19 hx20
      have he21 : Ext w w19 := Ext.trans he11 hx20
      have hb13 := Box.ext hb13 hx20
      have hz22 := (hx20).size
      refine TL.done ?_
      refine NX.seq ?_
      refine WC.cond rfl ?_ ?_
      · intro hc23
        replace hF := bif_t hc23 hF
        refine WC.skip' ?_
        refine NX.seq ?_
        refine WC.seq ?_
        refine WC.block ?_
        obtain ⟨x24, hy25, hF⟩ := bsome hF
        refine WC.held 13 Tryd.hm fun w37 hx38 => ?_
        have he39 : Ext w w37 := Ext.trans he21 hx38
        have hb13 := Box.ext hb13 hx38
        have hz40 := (hx38).size
        refine HL.yld 0 (by kernel_rfl) rfl (by kernel_rfl) rfl rfl (yld_move rfl rfl) ?_
        refine HL.yld 1 (by kernel_rfl) rfl (by kernel_rfl) rfl rfl (yld_move rfl rfl) ?_
        refine HL.yld 2 (by kernel_rfl) rfl (by kernel_rfl) rfl rfl (yld_nilCheck rfl rfl) ?_
        refine HL.yld 3 (by kernel_rfl) rfl (by kernel_rfl) rfl rfl (yld_fieldAddr rfl fo_90_2 rfl) ?_
        refine HL.yld 4 (by kernel_rfl) rfl (by kernel_rfl) rfl rfl (yld_load1 2 rfl ag_2 rfl (Box.cells hb13) rfl rfl) ?_
        refine HL.yld 5 (by kernel_rfl) rfl (by kernel_rfl) rfl rfl (yld_mul rfl rfl rfl) ?_
        refine HL.yld 6 (by kernel_rfl) rfl (by kernel_rfl) rfl rfl (yld_move rfl rfl) ?_
        refine HL.yld 7 (by kernel_rfl) rfl (by kernel_rfl) rfl rfl (yld_move rfl rfl) ?_
        refine HL.ye 8 (by kernel_rfl) rfl (by kernel_rfl) rfl rfl (ye_index (c := (cInt .u8)) rfl Tryd.underlying32 cn_5 rfl rfl (slRep.old ha2 he39 (Nat.le_refl _)) hy25) ?_
        rintro _ ⟨b41, o42, us43, rfl, hib46, hr44, hcl45⟩
        have hib46 : 0 ≤ b41 ∧ b41 < w.heap.size := ⟨hib46.1, by have := hib46.2; omega⟩
        obtain rfl := hr44
        refine HL.yld 9 (by kernel_rfl) rfl (by kernel_rfl) rfl rfl (yld_load1 0 rfl ag_5 rfl hcl45 rfl rfl) ?_
        refine HL.yld 10 (by kernel_rfl) rfl (by kernel_rfl) rfl rfl (yld_conv rfl Tryd.underlying5 Tryd.underlying2 rfl) ?_
        refine HL.yld 11 (by kernel_rfl) rfl (by kernel_rfl) rfl rfl (yld_add rfl rfl rfl) ?_
        refine HL.yld 12 (by kernel_rfl) rfl (by kernel_rfl) rfl rfl (yld_rem rfl rfl rfl (by decide)) ?_
        refine HL.tail rfl (by kernel_rfl) rfl ?_
        refine TL.yld rfl rfl (yld_nilCheck rfl rfl) ?_
        refine TL.yld rfl rfl (yld_fieldAddr rfl fo_90_2 rfl) ?_
        refine TL.eff rfl rfl (eff_store rfl rfl rfl hb13 cn_2 rfl rfl) ?_
        rintro _ w47 ⟨hu48, hb49⟩
        have he50 : Ext w w47 := Below.trans he39 (Upd.below hu48 (by omega))
        have hz51 := (hu48).size
        have hb13 : Box w47 b3 [v1, .int .i64 i14, .int .i64 (Int.tmod (IntKind.wrap IntKind.i64 ((IntKind.wrap IntKind.i64 (i15 * 31)) + (IntKind.wrap IntKind.i64 x24))) 2147483647)] 90 := hb49
        refine TL.noPan (l := []) ?_
        refine NX.blk_n ?_
        refine NX.seq ?_
        refine WC.region ?_
        refine TL.yld rfl rfl (yld_move rfl rfl) ?_
        refine TL.yld rfl rfl (yld_add rfl rfl rfl) ?_
        refine TL.yld rfl rfl (yld_assign rfl rfl) ?_
        refine TL.done ?_
        refine NX.then_n ?_
        intro a hK; exact ⟨m16, Nat.lt_succ_self m16, (IntKind.wrap IntKind.i64 (i12 + 1)), i14, (Int.tmod (IntKind.wrap IntKind.i64 ((IntKind.wrap IntKind.i64 (i15 * 31)) + (IntKind.wrap IntKind.i64 x24))) 2147483647), hK.weaken ⟨rfl, rfl, rfl, trivial⟩, he50, (by omega), hb13, hF⟩
      · intro hc52
        replace hF := bif_f hc52 hF
        refine WC.exit' ?_
        refine NX.then_e ?_
        refine NX.then_e ?_
        refine NX.blk_hit ?_
        refine NX.seq ?_
        refine WC.seq ?_
        refine WC.region ?_
        refine TL.yld rfl rfl (yld_move rfl rfl) ?_
        refine TL.yld rfl rfl (yld_assign rfl rfl) ?_
        refine TL.done ?_
        refine NX.seq ?_
        refine WC.ret' ?_
        obtain rfl := Option.some.inj hF
        exact NX.end (rs := [.tmp 2]) (vs := [.pointer (some ⟨b3, 0, none⟩)]) rfl ⟨rfl, trivial⟩ ⟨_, rfl, _, rfl, hb13, (by omega), he21⟩

-- loop.example/g00861/spec.l01Next
def F_spec_l01Next (n : Nat) (a0_s : S_l01Source) (a1_n : Int) : Option (Int × S_l01Source) := (bif decide (a1_n ≤ 1) then (some (0, a0_s)) else (bif decide (a0_s.at_ < (a0_s.code_.length : Int)) then (Option.bind (getI a0_s.code_ a0_s.at_) fun x15 => (bif decide (a1_n ≤ 256) then (bif (a1_n == 0) then none else (some (Int.tmod (IntKind.wrap IntKind.i64 x15) a1_n, (S_l01Source.mk a0_s.code_ (IntKind.wrap IntKind.i64 (a0_s.at_ + 1)) a0_s.seed_)))) else (bif (a1_n == 0) then none else (some (Int.tmod (Int.tmod (IntKind.wrap IntKind.i64 ((IntKind.wrap IntKind.i64 ((IntKind.wrap IntKind.i64 (a0_s.seed_ * 48271)) + (IntKind.wrap IntKind.i64 x15))) + 1)) 2147483647) a1_n, (S_l01Source.mk a0_s.code_ (IntKind.wrap IntKind.i64 (a0_s.at_ + 1)) (Int.tmod (IntKind.wrap IntKind.i64 ((IntKind.wrap IntKind.i64 ((IntKind.wrap IntKind.i64 (a0_s.seed_ * 48271)) + (IntKind.wrap IntKind.i64 x15))) + 1)) 2147483647))))))) else (bif (a1_n == 0) then none else (some (Int.tmod (IntKind.wrap IntKind.i64 (Int.tdiv (Int.tmod (IntKind.wrap IntKind.i64 ((IntKind.wrap IntKind.i64 (a0_s.seed_ * 48271)) + 11)) 2147483647) 7)) a1_n, (S_l01Source.mk a0_s.code_ a0_s.at_ (Int.tmod (IntKind.wrap IntKind.i64 ((IntKind.wrap IntKind.i64 (a0_s.seed_ * 48271)) + 11)) 2147483647)))))))
set_option maxHeartbeats 40000000 in
theorem W_spec_l01Next {n : Nat} {a0_s : S_l01Source} {a1_n : Int} {r : Int × S_l01Source} {w : World} {v1 : Value} {lo3 hi4 : Nat} {b0_ : Nat} (hF : F_spec_l01Next n a0_s a1_n = some r) (hb5 : Box w b0_ [v1, .int .i64 a0_s.at_, .int .i64 a0_s.seed_] 90) (ha2 : slRep (cInt .u8) w (Iv lo3 hi4) a0_s.code_ v1) (hh6 : hi4 ≤ w.heap.size) (hh7 : b0_ < lo3 ∨ hi4 ≤ b0_) :
    Calls Tryd.prog 69 [.pointer (some ⟨b0_, 0, none⟩), .int .i64 a1_n].toArray w (Ret fun u w2 => u = .int .i64 r.1 ∧ Box w2 b0_ [v1, .int .i64 r.2.at_, .int .i64 r.2.seed_] 90 ∧ But (pB b0_) w w2) := by
  refine calls_of Tryd.func69 rfl Tryd.ntmps69 ?_
  have he0 : But (pB b0_) w w := But.refl _ w
  have := Box.lt hb5
  unfold F_spec_l01Next at hF
  refine WC.seq ?_
  refine WC.region ?_
  refine TL.yld rfl rfl (yld_assign rfl rfl) ?_
  refine TL.done ?_
  refine NX.seq ?_
  refine WC.seq ?_
  refine WC.seq ?_
  refine WC.region ?_
  refine TL.yld rfl rfl (yld_move rfl rfl) ?_
  refine TL.yld rfl rfl (yld_leq rfl rfl rfl) ?_
  refine TL.done ?_
  refine NX.seq ?_
  refine WC.cond rfl ?_ ?_
  · intro hc8
    replace hF := bif_t hc8 hF
    refine WC.seq ?_
    refine WC.region ?_
    refine TL.yld rfl rfl (yld_assign rfl rfl) ?_
    refine TL.done ?_
    refine NX.seq ?_
    refine WC.ret' ?_
    refine NX.then_r ?_
    obtain rfl := Option.some.inj hF
    exact NX.end (rs := [.tmp 4]) (vs := [.int .i64 0]) rfl ⟨rfl, trivial⟩ ⟨_, rfl, rfl, hb5, he0⟩
  · intro hc9
    replace hF := bif_f hc9 hF
    refine WC.skip' ?_
    refine NX.seq ?_
    refine WC.seq ?_
    refine WC.seq ?_
    refine WC.quiet Tryd.hm (by kernel_rfl) ?_
    refine QL.yld rfl rfl (Yld.qui (yld_move rfl rfl)) ?_
    refine QL.yld rfl rfl (Yld.qui (yld_nilCheck rfl rfl)) ?_
    refine QL.yld rfl rfl (Yld.qui (yld_fieldAddr rfl fo_90_1 rfl)) ?_
    refine QL.yld rfl rfl (Yld.qui (yld_load1 1 rfl ag_3 rfl (Box.cells hb5) rfl rfl)) ?_
    refine QL.yld rfl rfl (Yld.qui (yld_move rfl rfl)) ?_
    refine QL.yld rfl rfl (Yld.qui (yld_nilCheck rfl rfl)) ?_
    refine QL.yld rfl rfl (Yld.qui (yld_fieldAddr rfl fo_90_0 rfl)) ?_
    refine QL.yld rfl rfl (Yld.qui (yld_load1 0 rfl ag_32 rfl (Box.cells hb5) rfl rfl)) ?_
    refine QL.yld rfl rfl (Yld.qui (ye_len (c := (cInt .u8)) rfl Tryd.underlying32 rfl ha2)) ?_
    refine QL.yld rfl rfl (Yld.qui (yld_lss rfl rfl rfl)) ?_
    refine QL.done fun w10 hx11 => ?_
    have he12 : But (pB b0_) w w10 := But.ext he0 hx11
    have hb5 := Box.ext hb5 hx11
    have ha2 := slRep.old ha2 hx11 (by omega)
    have hz13 := (hx11).size
    refine NX.seq ?_
    refine WC.cond rfl ?_ ?_
    · intro hc14
      replace hF := bif_t hc14 hF
      refine WC.seq ?_
      refine WC.quiet Tryd.hm (by kernel_rfl) ?_
      refine QL.yld rfl rfl (Yld.qui (yld_move rfl rfl)) ?_
      refine QL.yld rfl rfl (Yld.qui (yld_nilCheck rfl rfl)) ?_
      refine QL.yld rfl rfl (Yld.qui (yld_fieldAddr rfl fo_90_0 rfl)) ?_
      refine QL.yld rfl rfl (Yld.qui (yld_load1 0 rfl ag_32 rfl (Box.cells hb5) rfl rfl)) ?_
      refine QL.yld rfl rfl (Yld.qui (yld_move rfl rfl)) ?_
      refine QL.yld rfl rfl (Yld.qui (yld_nilCheck rfl rfl)) ?_
      refine QL.yld rfl rfl (Yld.qui (yld_fieldAddr rfl fo_90_1 rfl)) ?_
      refine QL.yld rfl rfl (Yld.qui (yld_load1 1 rfl ag_3 rfl (Box.cells hb5) rfl rfl)) ?_
      obtain ⟨x15, hy16, hF⟩ := bsome hF
      refine QL.ye rfl rfl (ye_index (c := (cInt .u8)) rfl Tryd.underlying32 cn_5 rfl rfl ha2 hy16) ?_
      rintro _ ⟨b17, o18, us19, rfl, hib22, hr20, hcl21⟩
      have hib22 : lo3 ≤ b17 ∧ b17 < hi4 := ⟨hib22.1, by have := hib22.2; omega⟩
      obtain rfl := hr20
      refine QL.yld rfl rfl (Yld.qui (yld_load1 0 rfl ag_5 rfl hcl21 rfl rfl)) ?_
      refine QL.yld rfl rfl (Yld.qui (yld_conv rfl Tryd.underlying5 Tryd.underlying2 rfl)) ?_
      refine QL.yld rfl rfl (Yld.qui (yld_assign rfl rfl)) ?_
      refine QL.done fun w23 hx24 => ?_
      have he25 : But (pB b0_) w w23 := But.ext he12 hx24
      have hb5 := Box.ext hb5 hx24
      have ha2 := slRep.old ha2 hx24 (by omega)
      have hz26 := (hx24).size
      refine NX.seq ?_
      refine WC.seq ?_
      refine WC.region ?_
      refine TL.yld rfl rfl (yld_move rfl rfl) ?_
      refine TL.yld rfl rfl (yld_nilCheck rfl rfl) ?_
      refine TL.yld rfl rfl (yld_fieldAddr rfl fo_90_1 rfl) ?_
      refine TL.yld rfl rfl (yld_load1 1 rfl ag_3 rfl (Box.cells hb5) rfl rfl) ?_
      refine TL.yld rfl rfl (yld_add rfl rfl rfl) ?_
      refine TL.yld rfl rfl (yld_nilCheck rfl rfl) ?_
      refine TL.yld rfl rfl (yld_fieldAddr rfl fo_90_1 rfl) ?_
      refine TL.eff rfl rfl (eff_store rfl rfl rfl hb5 cn_3 rfl rfl) ?_
      rintro _ w27 ⟨hu28, hb29⟩
      have he30 : But (pB b0_) w w27 := But.upd he25 hu28 (Or.inl rfl)
      have ha2 := slRep.upd ha2 hu28 (by omega)
      have hz31 := (hu28).size
      have hb5 : Box w27 b0_ [v1, .int .i64 (IntKind.wrap IntKind.i64 (a0_s.at_ + 1)), .int .i64 a0_s.seed_] 90 := hb29
      refine TL.done ?_
      refine NX.seq ?_
      refine WC.seq ?_
      refine WC.seq ?_
      refine WC.region ?_
      refine TL.yld rfl rfl (yld_move rfl rfl) ?_
      refine TL.yld rfl rfl (yld_leq rfl rfl rfl) ?_
      refine TL.done ?_
      refine NX.seq ?_
      refine WC.cond rfl ?_ ?_
      · intro hc32
        replace hF := bif_t hc32 hF
        refine WC.seq ?_
        refine WC.region ?_
        refine TL.yld rfl rfl (yld_move rfl rfl) ?_
        refine TL.yld rfl rfl (yld_move rfl rfl) ?_
        obtain ⟨hn33, hF⟩ := nzero hF
        refine TL.yld rfl rfl (yld_rem rfl rfl rfl hn33) ?_
        refine TL.yld rfl rfl (yld_assign rfl rfl) ?_
        refine TL.done ?_
        refine NX.seq ?_
        refine WC.ret' ?_
        refine NX.then_r ?_
        refine NX.then_r ?_
        obtain rfl := Option.some.inj hF
        exact NX.end (rs := [.tmp 4]) (vs := [.int .i64 (Int.tmod (IntKind.wrap IntKind.i64 x15) a1_n)]) rfl ⟨rfl, trivial⟩ ⟨_, rfl, rfl, hb5, he30⟩
      · intro hc34
        replace hF := bif_f hc34 hF
        refine WC.skip' ?_
        refine NX.seq ?_
        refine WC.seq ?_
        refine WC.region ?_
        refine TL.yld rfl rfl (yld_move rfl rfl) ?_
        refine TL.yld rfl rfl (yld_move rfl rfl) ?_
        refine TL.yld rfl rfl (yld_nilCheck rfl rfl) ?_
        refine TL.yld rfl rfl (yld_fieldAddr rfl fo_90_2 rfl) ?_
        refine TL.yld rfl rfl (yld_load1 2 rfl ag_2 rfl (Box.cells hb5) rfl rfl) ?_
        refine TL.yld rfl rfl (yld_mul rfl rfl rfl) ?_
        refine TL.yld rfl rfl (yld_move rfl rfl) ?_
        refine TL.yld rfl rfl (yld_add rfl rfl rfl) ?_
        refine TL.yld rfl rfl (yld_add rfl rfl rfl) ?_
        refine TL.yld rfl rfl (yld_rem rfl rfl rfl (by decide)) ?_
        refine TL.yld rfl rfl (yld_nilCheck rfl rfl) ?_
        refine TL.yld rfl rfl (yld_fieldAddr rfl fo_90_2 rfl) ?_
        refine TL.eff rfl rfl (eff_store rfl rfl rfl hb5 cn_2 rfl rfl) ?_
        rintro _ w35 ⟨hu36, hb37⟩
        have he38 : But (pB b0_) w w35 := But.upd he30 hu36 (Or.inl rfl)
        have ha2 := slRep.upd ha2 hu36 (by omega)
        have hz39 := (hu36).size
        have hb5 : Box w35 b0_ [v1, .int .i64 (IntKind.wrap IntKind.i64 (a0_s.at_ + 1)), .int .i64 (Int.tmod (IntKind.wrap IntKind.i64 ((IntKind.wrap IntKind.i64 ((IntKind.wrap IntKind.i64 (a0_s.seed_ * 48271)) + (IntKind.wrap IntKind.i64 x15))) + 1)) 2147483647)] 90 := hb37
        refine TL.done ?_
        refine NX.seq ?_
        refine WC.seq ?_
        refine WC.region ?_
        refine TL.yld rfl rfl (yld_move rfl rfl) ?_
        refine TL.yld rfl rfl (yld_nilCheck rfl rfl) ?_
        refine TL.yld rfl rfl (yld_fieldAddr rfl fo_90_2 rfl) ?_
        refine TL.yld rfl rfl (yld_load1 2 rfl ag_2 rfl (Box.cells hb5) rfl rfl) ?_
        refine TL.yld rfl rfl (yld_move rfl rfl) ?_
        obtain ⟨hn40, hF⟩ := nzero hF
        refine TL.yld rfl rfl (yld_rem rfl rfl rfl hn40) ?_
        refine TL.yld rfl rfl (yld_assign rfl rfl) ?_
        refine TL.done ?_
        refine NX.seq ?_
        refine WC.ret' ?_
        refine NX.then_r ?_
        obtain rfl := Option.some.inj hF
        exact NX.end (rs := [.tmp 4]) (vs := [.int .i64 (Int.tmod (Int.tmod (IntKind.wrap IntKind.i64 ((IntKind.wrap IntKind.i64 ((IntKind.wrap IntKind.i64 (a0_s.seed_ * 48271)) + (IntKind.wrap IntKind.i64 x15))) + 1)) 2147483647) a1_n)]) rfl ⟨rfl, trivial⟩ ⟨_, rfl, rfl, hb5, he38⟩
    · intro hc41
      replace hF := bif_f hc41 hF
      refine WC.skip' ?_
      refine NX.seq ?_
      refine WC.seq ?_
      refine WC.region ?_
      refine TL.yld rfl rfl (yld_move rfl rfl) ?_
      refine TL.yld rfl rfl (yld_move rfl rfl) ?_
      refine TL.yld rfl rfl (yld_nilCheck rfl rfl) ?_
      refine TL.yld rfl rfl (yld_fieldAddr rfl fo_90_2 rfl) ?_
      refine TL.yld rfl rfl (yld_load1 2 rfl ag_2 rfl (Box.cells hb5) rfl rfl) ?_
      refine TL.yld rfl rfl (yld_mul rfl rfl rfl) ?_
      refine TL.yld rfl rfl (yld_add rfl rfl rfl) ?_
      refine TL.yld rfl rfl (yld_rem rfl rfl rfl (by decide)) ?_
      refine TL.yld rfl rfl (yld_nilCheck rfl rfl) ?_
      refine TL.yld rfl rfl (yld_fieldAddr rfl fo_90_2 rfl) ?_
      refine TL.eff rfl rfl (eff_store rfl rfl rfl hb5 cn_2 rfl rfl) ?_
      rintro _ w42 ⟨hu43, hb44⟩
      have he45 : But (pB b0_) w w42 := But.upd he12 hu43 (Or.inl rfl)
      have ha2 := slRep.upd ha2 hu43 (by omega)
      have hz46 := (hu43).size
      have hb5 : Box w42 b0_ [v1, .int .i64 a0_s.at_, .int .i64 (Int.tmod (IntKind.wrap IntKind.i64 ((IntKind.wrap IntKind.i64 (a0_s.seed_ * 48271)) + 11)) 2147483647)] 90 := hb44
      refine TL.done ?_
      refine NX.seq ?_
      refine WC.seq ?_
      refine WC.region ?_
      refine TL.yld rfl rfl (yld_move rfl rfl) ?_
      refine TL.yld rfl rfl (yld_nilCheck rfl rfl) ?_
      refine TL.yld rfl rfl (yld_fieldAddr rfl fo_90_2 rfl) ?_
      refine TL.yld rfl rfl (yld_load1 2 rfl ag_2 rfl (Box.cells hb5) rfl rfl) ?_
      refine TL.yld rfl rfl (yld_quo rfl rfl rfl (by decide)) ?_
      refine TL.yld rfl rfl (yld_move rfl rfl) ?_
      obtain ⟨hn47, hF⟩ := nzero hF
      refine TL.yld rfl rfl (yld_rem rfl rfl rfl hn47) ?_
      refine TL.yld rfl rfl (yld_assign rfl rfl) ?_
      refine TL.done ?_
      refine NX.seq ?_
      refine WC.ret' ?_
      obtain rfl := Option.some.inj hF
      exact NX.end (rs := [.tmp 4]) (vs := [.int .i64 (Int.tmod (IntKind.wrap IntKind.i64 (Int.tdiv (Int.tmod (IntKind.wrap IntKind.i64 ((IntKind.wrap IntKind.i64 (a0_s.seed_ * 48271)) + 11)) 2147483647) 7)) a1_n)]) rfl ⟨rfl, trivial⟩ ⟨_, rfl, rfl, hb5, he45⟩

end Go.Proofs.YthjagnioabgceaaDoor
