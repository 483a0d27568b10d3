/- The walks: every function that FnPulses reaches computes the plain function that is typed beside it; no condition. -/
import Derived.Test.YthjagnioabgceaaDoorProg
import Derived.Test.YthjagnioabgceaaDoorDat
import Derived.Test.YthjagnioabgceaaDoorShelf
set_option linter.all false
set_option maxRecDepth 20000
namespace Go.Proofs.YthjagnioabgceaaDoor
open Go Go.RowKit Go.Eng
theorem Tryd.hm : Tryd.prog.follows .mixedOrders = true := by kernel_rfl
theorem ag_2 : aggB Tryd.prog 2 = some false := by kernel_rfl
theorem ag_3 : aggB Tryd.prog 3 = some false := by kernel_rfl
theorem ag_32 : aggB Tryd.prog 32 = some false := by kernel_rfl
theorem ag_4 : aggB Tryd.prog 4 = some false := by kernel_rfl
theorem ag_45 : aggB Tryd.prog 45 = some true := by kernel_rfl
theorem ag_5 : aggB Tryd.prog 5 = some false := by kernel_rfl
theorem ag_60 : aggB Tryd.prog 60 = some true := by kernel_rfl
theorem ag_71 : aggB Tryd.prog 71 = some true := by kernel_rfl
theorem ag_9 : aggB Tryd.prog 9 = some false := by kernel_rfl
theorem cn_2 : cellsN Tryd.prog 2 = some 1 := by kernel_rfl
theorem cn_3 : cellsN Tryd.prog 3 = some 1 := by kernel_rfl
theorem cn_4 : cellsN Tryd.prog 4 = some 1 := by kernel_rfl
theorem cn_45 : cellsN Tryd.prog 45 = some 11 := by kernel_rfl
theorem cn_5 : cellsN Tryd.prog 5 = some 1 := by kernel_rfl
theorem cn_60 : cellsN Tryd.prog 60 = some 3 := by kernel_rfl
theorem cn_71 : cellsN Tryd.prog 71 = some 3 := by kernel_rfl
theorem cn_9 : cellsN Tryd.prog 9 = some 1 := by kernel_rfl
theorem fo_45_0 : fieldOff Tryd.prog 45 0 = some 0 := by kernel_rfl
theorem fo_45_1 : fieldOff Tryd.prog 45 1 = some 1 := by kernel_rfl
theorem fo_45_10 : fieldOff Tryd.prog 45 10 = some 10 := by kernel_rfl
theorem fo_45_2 : fieldOff Tryd.prog 45 2 = some 2 := by kernel_rfl
theorem fo_45_3 : fieldOff Tryd.prog 45 3 = some 3 := by kernel_rfl
theorem fo_45_4 : fieldOff Tryd.prog 45 4 = some 4 := by kernel_rfl
theorem fo_45_5 : fieldOff Tryd.prog 45 5 = some 5 := by kernel_rfl
theorem fo_45_6 : fieldOff Tryd.prog 45 6 = some 6 := by kernel_rfl
theorem fo_45_7 : fieldOff Tryd.prog 45 7 = some 7 := by kernel_rfl
theorem fo_45_8 : fieldOff Tryd.prog 45 8 = some 8 := by kernel_rfl
theorem fo_45_9 : fieldOff Tryd.prog 45 9 = some 9 := by kernel_rfl
theorem fo_60_0 : fieldOff Tryd.prog 60 0 = some 0 := by kernel_rfl
theorem fo_60_1 : fieldOff Tryd.prog 60 1 = some 1 := by kernel_rfl
theorem fo_60_2 : fieldOff Tryd.prog 60 2 = some 2 := by kernel_rfl
theorem fo_71_0 : fieldOff Tryd.prog 71 0 = some 0 := by kernel_rfl
theorem fo_71_1 : fieldOff Tryd.prog 71 1 = some 1 := by kernel_rfl
theorem fo_90_0 : fieldOff Tryd.prog 90 0 = some 0 := by kernel_rfl
theorem fo_90_1 : fieldOff Tryd.prog 90 1 = some 1 := by kernel_rfl
theorem fo_90_2 : fieldOff Tryd.prog 90 2 = some 2 := by kernel_rfl
theorem ft_60_0 : fieldT Tryd.prog 60 0 = some (2, 0) := by kernel_rfl
theorem ft_71_0 : fieldT Tryd.prog 71 0 = some (2, 0) := by kernel_rfl
theorem gf_16 : goFn Tryd.prog 16 = true := by kernel_rfl
theorem gf_18 : goFn Tryd.prog 18 = true := by kernel_rfl
theorem gf_20 : goFn Tryd.prog 20 = true := by kernel_rfl
theorem gf_22 : goFn Tryd.prog 22 = true := by kernel_rfl
theorem gf_23 : goFn Tryd.prog 23 = true := by kernel_rfl
theorem gf_24 : goFn Tryd.prog 24 = true := by kernel_rfl
theorem gf_45 : goFn Tryd.prog 45 = true := by kernel_rfl
theorem gf_46 : goFn Tryd.prog 46 = true := by kernel_rfl
theorem gf_47 : goFn Tryd.prog 47 = true := by kernel_rfl
theorem gf_48 : goFn Tryd.prog 48 = true := by kernel_rfl
theorem gf_50 : goFn Tryd.prog 50 = true := by kernel_rfl
theorem gf_51 : goFn Tryd.prog 51 = true := by kernel_rfl
theorem gf_53 : goFn Tryd.prog 53 = true := by kernel_rfl
theorem gf_54 : goFn Tryd.prog 54 = true := by kernel_rfl
theorem gf_55 : goFn Tryd.prog 55 = true := by kernel_rfl
theorem gf_56 : goFn Tryd.prog 56 = true := by kernel_rfl
theorem gf_57 : goFn Tryd.prog 57 = true := by kernel_rfl
theorem gf_58 : goFn Tryd.prog 58 = true := by kernel_rfl
theorem gf_59 : goFn Tryd.prog 59 = true := by kernel_rfl
theorem gf_66 : goFn Tryd.prog 66 = true := by kernel_rfl
theorem gf_69 : goFn Tryd.prog 69 = true := by kernel_rfl
theorem gf_71 : goFn Tryd.prog 71 = true := by kernel_rfl
theorem gf_72 : goFn Tryd.prog 72 = true := by kernel_rfl
theorem gf_73 : goFn Tryd.prog 73 = true := by kernel_rfl
theorem gf_74 : goFn Tryd.prog 74 = true := by kernel_rfl
theorem gf_75 : goFn Tryd.prog 75 = true := by kernel_rfl
theorem gf_76 : goFn Tryd.prog 76 = true := by kernel_rfl
theorem gf_77 : goFn Tryd.prog 77 = true := by kernel_rfl
theorem gf_78 : goFn Tryd.prog 78 = true := by kernel_rfl
theorem gf_82 : goFn Tryd.prog 82 = true := by kernel_rfl
theorem gf_83 : goFn Tryd.prog 83 = true := by kernel_rfl
theorem gf_84 : goFn Tryd.prog 84 = true := by kernel_rfl
theorem gf_85 : goFn Tryd.prog 85 = true := by kernel_rfl
theorem gf_86 : goFn Tryd.prog 86 = true := by kernel_rfl
theorem gf_95 : goFn Tryd.prog 95 = true := by kernel_rfl
theorem in_2 : infoN Tryd.prog 2 = some ([.int .i64 0], 1, 8) := by kernel_rfl
theorem in_45 : infoN Tryd.prog 45 = some ([.string ByteArray.empty, .int .i64 0, .int .i64 0, .int .i64 0, .int .i64 0, .int .i64 0, .int .i64 0, .bool false, .int .i64 0, .int .i64 0, .int .i64 0], 11, 96) := by kernel_rfl
theorem in_5 : infoN Tryd.prog 5 = some ([.int .u8 0], 1, 1) := by kernel_rfl
theorem in_9 : infoN Tryd.prog 9 = some ([.string ByteArray.empty], 1, 16) := by kernel_rfl
theorem pl_45 : placesN Tryd.prog 45 = some [(0, 1), (1, 1), (2, 1), (3, 1), (4, 1), (5, 1), (6, 1), (7, 1), (8, 1), (9, 1), (10, 1)] := by kernel_rfl
theorem pl_60 : placesN Tryd.prog 60 = some [(0, 1), (1, 1), (2, 1)] := by kernel_rfl
theorem pl_69 : placesN Tryd.prog 69 = some [(0, 1), (1, 1)] := by kernel_rfl
theorem pl_71 : placesN Tryd.prog 71 = some [(0, 1), (1, 2)] := by kernel_rfl
theorem pl_90 : placesN Tryd.prog 90 = some [(0, 1), (1, 1), (2, 1)] := by kernel_rfl
theorem zn_45 : zeroN Tryd.prog 45 = some [.string ByteArray.empty, .int .i64 0, .int .i64 0, .int .i64 0, .int .i64 0, .int .i64 0, .int .i64 0, .bool false, .int .i64 0, .int .i64 0, .int .i64 0] := by kernel_rfl
theorem zn_60 : zeroN Tryd.prog 60 = some [.int .i64 0, .int .i64 0, .int .i64 0] := by kernel_rfl
theorem zn_69 : zeroN Tryd.prog 69 = some [.int .i64 0, .int .i64 0] := by kernel_rfl
theorem zn_71 : zeroN Tryd.prog 71 = some [.int .i64 0, .int .i64 0, .int .i64 0] := by kernel_rfl
theorem zn_90 : zeroN Tryd.prog 90 = some [.slice none 0 0, .int .i64 0, .int .i64 0] := by kernel_rfl
-- loop.example/g00861/spec.l14Of
def F_spec_l14Of : Nat → (List S_Clock) → Int → Option S_l14Wave
  | 0 => fun _ _ => none
  | n + 1 => fun a0_list a1_k => (Option.bind (getI a0_list a1_k) fun x10 => (bif decide (x10.Source < 0) then (some ((S_l14Wave.mk x10.Period x10.RiseAt x10.FallAt))) else (Option.bind (F_spec_l14Of n a0_list x10.Source) fun r37 => (bif decide (x10.Divide > 1) then (bif x10.Invert then (some ((S_l14Wave.mk (IntKind.wrap IntKind.i64 (r37.period_ * x10.Divide)) (IntKind.wrap IntKind.i64 (r37.rise_ + (IntKind.wrap IntKind.i64 ((IntKind.wrap IntKind.i64 (Int.tdiv x10.Divide 2)) * r37.period_)))) r37.rise_))) else (some ((S_l14Wave.mk (IntKind.wrap IntKind.i64 (r37.period_ * x10.Divide)) r37.rise_ (IntKind.wrap IntKind.i64 (r37.rise_ + (IntKind.wrap IntKind.i64 ((IntKind.wrap IntKind.i64 (Int.tdiv x10.Divide 2)) * r37.period_)))))))) else (bif x10.Invert then (some ((S_l14Wave.mk r37.period_ r37.fall_ r37.rise_))) else (some r37))))))
theorem F_spec_l14Of_z (a0_list : List S_Clock) (a1_k : Int) : F_spec_l14Of 0 a0_list a1_k = none := rfl
theorem F_spec_l14Of_s (n : Nat) (a0_list : List S_Clock) (a1_k : Int) : F_spec_l14Of (n + 1) a0_list a1_k = (Option.bind (getI a0_list a1_k) fun x10 => (bif decide (x10.Source < 0) then (some ((S_l14Wave.mk x10.Period x10.RiseAt x10.FallAt))) else (Option.bind (F_spec_l14Of n a0_list x10.Source) fun r37 => (bif decide (x10.Divide > 1) then (bif x10.Invert then (some ((S_l14Wave.mk (IntKind.wrap IntKind.i64 (r37.period_ * x10.Divide)) (IntKind.wrap IntKind.i64 (r37.rise_ + (IntKind.wrap IntKind.i64 ((IntKind.wrap IntKind.i64 (Int.tdiv x10.Divide 2)) * r37.period_)))) r37.rise_))) else (some ((S_l14Wave.mk (IntKind.wrap IntKind.i64 (r37.period_ * x10.Divide)) r37.rise_ (IntKind.wrap IntKind.i64 (r37.rise_ + (IntKind.wrap IntKind.i64 ((IntKind.wrap IntKind.i64 (Int.tdiv x10.Divide 2)) * r37.period_)))))))) else (bif x10.Invert then (some ((S_l14Wave.mk r37.period_ r37.fall_ r37.rise_))) else (some r37)))))) := rfl
set_option maxHeartbeats 40000000 in
theorem W_spec_l14Of {n : Nat} {a0_list : List S_Clock} {a1_k : Int} {r : S_l14Wave} {w : World} {v1 : Value} (hF : F_spec_l14Of n a0_list a1_k = some r) (ha2 : slRep C_Clock w (Iv 0 w.heap.size) a0_list v1) :
    Calls Tryd.prog 48 [v1, .int .i64 a1_k].toArray w (Ret fun u w2 => u = .agg #[.int .i64 r.period_, .int .i64 r.rise_, .int .i64 r.fall_] ∧ Ext w w2) := by
  cases n with
  | zero => rw [F_spec_l14Of_z] at hF; cases hF
  | succ n =>
    refine calls_of Tryd.func48 rfl Tryd.ntmps48 ?_
    have he0 : Ext w w := Ext.refl w
    rw [F_spec_l14Of_s] at hF
    refine WC.seq ?_
    refine WC.region ?_
    refine TL.eff rfl rfl (eff_alloc rfl zn_60) ?_
    rintro _ w4 ⟨b3, rfl, hn5⟩
    obtain ⟨hn5e, hn5s, hn5x, hb6⟩ := hn5
    have hb6 : Box w4 b3 [.int .i64 0, .int .i64 0, .int .i64 0] 60 := hb6
    have he8 : Ext w w4 := Ext.trans he0 hn5x
    have hz9 := (hn5x).size
    have hlo7 : w.heap.size ≤ b3 := by rw [hn5e]; exact (he0).size
    refine TL.done ?_
    refine NX.seq ?_
    refine WC.seq ?_
    refine WC.region ?_
    refine TL.yld rfl rfl (yld_move rfl rfl) ?_
    refine TL.yld rfl rfl (yld_move rfl rfl) ?_
    obtain ⟨x10, hy11, hF⟩ := bsome hF
    refine TL.ye rfl rfl (ye_index (c := C_Clock) rfl Tryd.underlying25 cn_45 rfl rfl (slRep.old ha2 he8 (Nat.le_refl _)) hy11) ?_
    rintro _ ⟨b12, o13, us14, rfl, hib17, hr15, hcl16⟩
    have hib17 : 0 ≤ b12 ∧ b12 < w.heap.size := ⟨hib17.1, by have := hib17.2; omega⟩
    obtain rfl := C_Clock_open hr15
    refine TL.yld rfl rfl (yld_loadN (us := [.string x10.Name, .int .i64 x10.Place, .int .i64 x10.Period, .int .i64 x10.RiseAt, .int .i64 x10.FallAt, .int .i64 x10.Source, .int .i64 x10.Divide, .bool x10.Invert, .int .i64 x10.EarlyLatency, .int .i64 x10.LateLatency, .int .i64 x10.Uncertainty]) rfl ag_45 rfl hcl16 cn_45) ?_
    refine TL.eff rfl rfl (eff_alloc rfl zn_45) ?_
    rintro _ w19 ⟨b18, rfl, hn20⟩
    obtain ⟨hn20e, hn20s, hn20x, hb21⟩ := hn20
    have hb21 : Box w19 b18 [.string ByteArray.empty, .int .i64 0, .int .i64 0, .int .i64 0, .int .i64 0, .int .i64 0, .int .i64 0, .bool false, .int .i64 0, .int .i64 0, .int .i64 0] 45 := hb21
    have he23 : Ext w w19 := Ext.trans he8 hn20x
    have hb6 := Box.ext hb6 hn20x
    have hz24 := (hn20x).size
    have hlo22 : w.heap.size ≤ b18 := by rw [hn20e]; exact (he8).size
    refine TL.eff rfl rfl (eff_store rfl rfl rfl hb21 cn_45 rfl rfl) ?_
    rintro _ w25 ⟨hu26, hb27⟩
    have he28 : Ext w w25 := Below.trans he23 (Upd.below hu26 (by omega))
    have hb6 := Box.upd hb6 hu26 (by omega)
    have hz29 := (hu26).size
    have hb21 : Box w25 b18 [.string x10.Name, .int .i64 x10.Place, .int .i64 x10.Period, .int .i64 x10.RiseAt, .int .i64 x10.FallAt, .int .i64 x10.Source, .int .i64 x10.Divide, .bool x10.Invert, .int .i64 x10.EarlyLatency, .int .i64 x10.LateLatency, .int .i64 x10.Uncertainty] 45 := hb27
    refine TL.done ?_
    refine NX.seq ?_
    refine WC.seq ?_
    refine WC.seq ?_
    refine WC.region ?_
    refine TL.yld rfl rfl (yld_fieldAddr rfl fo_45_5 rfl) ?_
    refine TL.yld rfl rfl (yld_load1 5 rfl ag_2 rfl (Box.cells hb21) rfl rfl) ?_
    refine TL.yld rfl rfl (yld_lss rfl rfl rfl) ?_
    refine TL.done ?_
    refine NX.seq ?_
    refine WC.cond rfl ?_ ?_
    · intro hc30
      replace hF := bif_t hc30 hF
      refine WC.seq ?_
      refine WC.region ?_
      refine TL.yld rfl rfl (yld_fieldAddr rfl fo_45_2 rfl) ?_
      refine TL.yld rfl rfl (yld_load1 2 rfl ag_2 rfl (Box.cells hb21) rfl rfl) ?_
      refine TL.yld rfl rfl (yld_fieldAddr rfl fo_45_3 rfl) ?_
      refine TL.yld rfl rfl (yld_load1 3 rfl ag_2 rfl (Box.cells hb21) rfl rfl) ?_
      refine TL.yld rfl rfl (yld_fieldAddr rfl fo_45_4 rfl) ?_
      refine TL.yld rfl rfl (yld_load1 4 rfl ag_2 rfl (Box.cells hb21) rfl rfl) ?_
      refine TL.yld rfl rfl (yld_build (uss := [(0, [.int .i64 x10.Period]), (1, [.int .i64 x10.RiseAt]), (2, [.int .i64 x10.FallAt])]) (out := [.int .i64 x10.Period, .int .i64 x10.RiseAt, .int .i64 x10.FallAt]) rfl rfl zn_60 pl_60 rfl rfl) ?_
      refine TL.eff rfl rfl (eff_store rfl rfl rfl hb6 cn_60 rfl rfl) ?_
      rintro _ w31 ⟨hu32, hb33⟩
      have he34 : Ext w w31 := Below.trans he28 (Upd.below hu32 (by omega))
      have hb21 := Box.upd hb21 hu32 (by omega)
      have hz35 := (hu32).size
      have hb6 : Box w31 b3 [.int .i64 x10.Period, .int .i64 x10.RiseAt, .int .i64 x10.FallAt] 60 := hb33
      refine TL.done ?_
      refine NX.seq ?_
      refine WC.ret' ?_
      refine NX.then_r ?_
      obtain rfl := Option.some.inj hF
      exact NX.end (rs := [.cell 4 60]) (vs := [.agg #[.int .i64 x10.Period, .int .i64 x10.RiseAt, .int .i64 x10.FallAt]]) rfl ⟨⟨b3, rfl, box_load ag_60 cn_60 hb6⟩, trivial⟩ ⟨_, rfl, rfl, he34⟩
    · intro hc36
      replace hF := bif_f hc36 hF
      refine WC.skip' ?_
      refine NX.seq ?_
      refine WC.seq ?_
      refine WC.region ?_
      refine TL.yld rfl rfl (yld_move rfl rfl) ?_
      refine TL.yld rfl rfl (yld_fieldAddr rfl fo_45_5 rfl) ?_
      refine TL.yld rfl rfl (yld_load1 5 rfl ag_2 rfl (Box.cells hb21) rfl rfl) ?_
      obtain ⟨r37, hr38, hF⟩ := bsome hF
      refine TL.eff rfl rfl (eff_call rfl gf_48 rfl (W_spec_l14Of hr38 ((slRep.old ha2 he28 (Nat.le_refl _)).wide (Nat.le_refl _) (he28).size))) ?_
      rintro _ w39 ⟨rfl, hx40⟩
      have he41 : Ext w w39 := Ext.trans he28 hx40
      have hb6 := Box.ext hb6 hx40
      have hb21 := Box.ext hb21 hx40
      have hz42 := (hx40).size
      refine TL.eff rfl rfl (eff_alloc rfl zn_60) ?_
      rintro _ w44 ⟨b43, rfl, hn45⟩
      obtain ⟨hn45e, hn45s, hn45x, hb46⟩ := hn45
      have hb46 : Box w44 b43 [.int .i64 0, .int .i64 0, .int .i64 0] 60 := hb46
      have he48 : Ext w w44 := Ext.trans he41 hn45x
      have hb6 := Box.ext hb6 hn45x
      have hb21 := Box.ext hb21 hn45x
      have hz49 := (hn45x).size
      have hlo47 : w.heap.size ≤ b43 := by rw [hn45e]; exact (he41).size
      refine TL.eff rfl rfl (eff_store rfl rfl rfl hb46 cn_60 rfl rfl) ?_
      rintro _ w50 ⟨hu51, hb52⟩
      have he53 : Ext w w50 := Below.trans he48 (Upd.below hu51 (by omega))
      have hb6 := Box.upd hb6 hu51 (by omega)
      have hb21 := Box.upd hb21 hu51 (by omega)
      have hz54 := (hu51).size
      have hb46 : Box w50 b43 [.int .i64 r37.period_, .int .i64 r37.rise_, .int .i64 r37.fall_] 60 := hb52
      refine TL.done ?_
      refine NX.seq ?_
      refine WC.seq ?_
      refine WC.seq ?_
      refine WC.region ?_
      refine TL.yld rfl rfl (yld_fieldAddr rfl fo_45_6 rfl) ?_
      refine TL.yld rfl rfl (yld_load1 6 rfl ag_2 rfl (Box.cells hb21) rfl rfl) ?_
      refine TL.yld rfl rfl (yld_gtr rfl rfl rfl) ?_
      refine TL.done ?_
      refine NX.seq ?_
      refine WC.cond rfl ?_ ?_
      · intro hc55
        replace hF := bif_t hc55 hF
        refine WC.region ?_
        refine TL.yld rfl rfl (yld_fieldAddr rfl fo_60_0 rfl) ?_
        refine TL.yld rfl rfl (yld_load1 0 rfl ag_2 rfl (Box.cells hb46) rfl rfl) ?_
        refine TL.yld rfl rfl (yld_fieldAddr rfl fo_45_6 rfl) ?_
        refine TL.yld rfl rfl (yld_load1 6 rfl ag_2 rfl (Box.cells hb21) rfl rfl) ?_
        refine TL.yld rfl rfl (yld_mul rfl rfl rfl) ?_
        refine TL.yld rfl rfl (yld_fieldAddr rfl fo_60_1 rfl) ?_
        refine TL.yld rfl rfl (yld_load1 1 rfl ag_2 rfl (Box.cells hb46) rfl rfl) ?_
        refine TL.yld rfl rfl (yld_fieldAddr rfl fo_60_1 rfl) ?_
        refine TL.yld rfl rfl (yld_load1 1 rfl ag_2 rfl (Box.cells hb46) rfl rfl) ?_
        refine TL.yld rfl rfl (yld_fieldAddr rfl fo_45_6 rfl) ?_
        refine TL.yld rfl rfl (yld_load1 6 rfl ag_2 rfl (Box.cells hb21) rfl rfl) ?_
        refine TL.yld rfl rfl (yld_quo rfl rfl rfl (by decide)) ?_
        refine TL.yld rfl rfl (yld_fieldAddr rfl fo_60_0 rfl) ?_
        refine TL.yld rfl rfl (yld_load1 0 rfl ag_2 rfl (Box.cells hb46) rfl rfl) ?_
        refine TL.yld rfl rfl (yld_mul rfl rfl rfl) ?_
        refine TL.yld rfl rfl (yld_add rfl rfl rfl) ?_
        refine TL.yld rfl rfl (yld_build (uss := [(0, [.int .i64 (IntKind.wrap IntKind.i64 (r37.period_ * x10.Divide))]), (1, [.int .i64 r37.rise_]), (2, [.int .i64 (IntKind.wrap IntKind.i64 (r37.rise_ + (IntKind.wrap IntKind.i64 ((IntKind.wrap IntKind.i64 (Int.tdiv x10.Divide 2)) * r37.period_))))])]) (out := [.int .i64 (IntKind.wrap IntKind.i64 (r37.period_ * x10.Divide)), .int .i64 r37.rise_, .int .i64 (IntKind.wrap IntKind.i64 (r37.rise_ + (IntKind.wrap IntKind.i64 ((IntKind.wrap IntKind.i64 (Int.tdiv x10.Divide 2)) * r37.period_))))]) rfl rfl zn_60 pl_60 rfl rfl) ?_
        refine TL.eff rfl rfl (eff_store rfl rfl rfl hb46 cn_60 rfl rfl) ?_
        rintro _ w56 ⟨hu57, hb58⟩
        have he59 : Ext w w56 := Below.trans he53 (Upd.below hu57 (by omega))
        have hb6 := Box.upd hb6 hu57 (by omega)
        have hb21 := Box.upd hb21 hu57 (by omega)
        have hz60 := (hu57).size
        have hb46 : Box w56 b43 [.int .i64 (IntKind.wrap IntKind.i64 (r37.period_ * x10.Divide)), .int .i64 r37.rise_, .int .i64 (IntKind.wrap IntKind.i64 (r37.rise_ + (IntKind.wrap IntKind.i64 ((IntKind.wrap IntKind.i64 (Int.tdiv x10.Divide 2)) * r37.period_))))] 60 := hb58
        refine TL.done ?_
        refine NX.seq ?_
        refine WC.seq ?_
        refine WC.seq ?_
        refine WC.region ?_
        refine TL.yld rfl rfl (yld_fieldAddr rfl fo_45_7 rfl) ?_
        refine TL.yld rfl rfl (yld_load1 7 rfl ag_4 rfl (Box.cells hb21) rfl rfl) ?_
        refine TL.done ?_
        refine NX.seq ?_
        refine WC.cond rfl ?_ ?_
        · intro hc61
          replace hF := bif_t hc61 hF
          refine WC.region ?_
          refine TL.yld rfl rfl (yld_fieldAddr rfl fo_60_0 rfl) ?_
          refine TL.yld rfl rfl (yld_load1 0 rfl ag_2 rfl (Box.cells hb46) rfl rfl) ?_
          refine TL.yld rfl rfl (yld_fieldAddr rfl fo_60_2 rfl) ?_
          refine TL.yld rfl rfl (yld_load1 2 rfl ag_2 rfl (Box.cells hb46) rfl rfl) ?_
          refine TL.yld rfl rfl (yld_fieldAddr rfl fo_60_1 rfl) ?_
          refine TL.yld rfl rfl (yld_load1 1 rfl ag_2 rfl (Box.cells hb46) rfl rfl) ?_
          refine TL.yld rfl rfl (yld_build (uss := [(0, [.int .i64 (IntKind.wrap IntKind.i64 (r37.period_ * x10.Divide))]), (1, [.int .i64 (IntKind.wrap IntKind.i64 (r37.rise_ + (IntKind.wrap IntKind.i64 ((IntKind.wrap IntKind.i64 (Int.tdiv x10.Divide 2)) * r37.period_))))]), (2, [.int .i64 r37.rise_])]) (out := [.int .i64 (IntKind.wrap IntKind.i64 (r37.period_ * x10.Divide)), .int .i64 (IntKind.wrap IntKind.i64 (r37.rise_ + (IntKind.wrap IntKind.i64 ((IntKind.wrap IntKind.i64 (Int.tdiv x10.Divide 2)) * r37.period_)))), .int .i64 r37.rise_]) rfl rfl zn_60 pl_60 rfl rfl) ?_
          refine TL.eff rfl rfl (eff_store rfl rfl rfl hb46 cn_60 rfl rfl) ?_
          rintro _ w62 ⟨hu63, hb64⟩
          have he65 : Ext w w62 := Below.trans he59 (Upd.below hu63 (by omega))
          have hb6 := Box.upd hb6 hu63 (by omega)
          have hb21 := Box.upd hb21 hu63 (by omega)
          have hz66 := (hu63).size
          have hb46 : Box w62 b43 [.int .i64 (IntKind.wrap IntKind.i64 (r37.period_ * x10.Divide)), .int .i64 (IntKind.wrap IntKind.i64 (r37.rise_ + (IntKind.wrap IntKind.i64 ((IntKind.wrap IntKind.i64 (Int.tdiv x10.Divide 2)) * r37.period_)))), .int .i64 r37.rise_] 60 := hb64
          refine TL.done ?_
          refine NX.seq ?_
          refine WC.seq ?_
          refine WC.region ?_
          refine TL.yld rfl rfl (yld_loadN (us := [.int .i64 (IntKind.wrap IntKind.i64 (r37.period_ * x10.Divide)), .int .i64 (IntKind.wrap IntKind.i64 (r37.rise_ + (IntKind.wrap IntKind.i64 ((IntKind.wrap IntKind.i64 (Int.tdiv x10.Divide 2)) * r37.period_)))), .int .i64 r37.rise_]) rfl ag_60 rfl (Box.cells hb46) cn_60) ?_
          refine TL.eff rfl rfl (eff_store rfl rfl rfl hb6 cn_60 rfl rfl) ?_
          rintro _ w67 ⟨hu68, hb69⟩
          have he70 : Ext w w67 := Below.trans he65 (Upd.below hu68 (by omega))
          have hb21 := Box.upd hb21 hu68 (by omega)
          have hb46 := Box.upd hb46 hu68 (by omega)
          have hz71 := (hu68).size
          have hb6 : Box w67 b3 [.int .i64 (IntKind.wrap IntKind.i64 (r37.period_ * x10.Divide)), .int .i64 (IntKind.wrap IntKind.i64 (r37.rise_ + (IntKind.wrap IntKind.i64 ((IntKind.wrap IntKind.i64 (Int.tdiv x10.Divide 2)) * r37.period_)))), .int .i64 r37.rise_] 60 := hb69
          refine TL.done ?_
          refine NX.seq ?_
          refine WC.ret' ?_
          obtain rfl := Option.some.inj hF
          exact NX.end (rs := [.cell 4 60]) (vs := [.agg #[.int .i64 (IntKind.wrap IntKind.i64 (r37.period_ * x10.Divide)), .int .i64 (IntKind.wrap IntKind.i64 (r37.rise_ + (IntKind.wrap IntKind.i64 ((IntKind.wrap IntKind.i64 (Int.tdiv x10.Divide 2)) * r37.period_)))), .int .i64 r37.rise_]]) rfl ⟨⟨b3, rfl, box_load ag_60 cn_60 hb6⟩, trivial⟩ ⟨_, rfl, rfl, he70⟩
        · intro hc72
          replace hF := bif_f hc72 hF
          refine WC.skip' ?_
          refine NX.seq ?_
          refine WC.seq ?_
          refine WC.region ?_
          refine TL.yld rfl rfl (yld_loadN (us := [.int .i64 (IntKind.wrap IntKind.i64 (r37.period_ * x10.Divide)), .int .i64 r37.rise_, .int .i64 (IntKind.wrap IntKind.i64 (r37.rise_ + (IntKind.wrap IntKind.i64 ((IntKind.wrap IntKind.i64 (Int.tdiv x10.Divide 2)) * r37.period_))))]) rfl ag_60 rfl (Box.cells hb46) cn_60) ?_
          refine TL.eff rfl rfl (eff_store rfl rfl rfl hb6 cn_60 rfl rfl) ?_
          rintro _ w73 ⟨hu74, hb75⟩
          have he76 : Ext w w73 := Below.trans he59 (Upd.below hu74 (by omega))
          have hb21 := Box.upd hb21 hu74 (by omega)
          have hb46 := Box.upd hb46 hu74 (by omega)
          have hz77 := (hu74).size
          have hb6 : Box w73 b3 [.int .i64 (IntKind.wrap IntKind.i64 (r37.period_ * x10.Divide)), .int .i64 r37.rise_, .int .i64 (IntKind.wrap IntKind.i64 (r37.rise_ + (IntKind.wrap IntKind.i64 ((IntKind.wrap IntKind.i64 (Int.tdiv x10.Divide 2)) * r37.period_))))] 60 := hb75
          refine TL.done ?_
          refine NX.seq ?_
          refine WC.ret' ?_
          obtain rfl := Option.some.inj hF
          exact NX.end (rs := [.cell 4 60]) (vs := [.agg #[.int .i64 (IntKind.wrap IntKind.i64 (r37.period_ * x10.Divide)), .int .i64 r37.rise_, .int .i64 (IntKind.wrap IntKind.i64 (r37.rise_ + (IntKind.wrap IntKind.i64 ((IntKind.wrap IntKind.i64 (Int.tdiv x10.Divide 2)) * r37.period_))))]]) rfl ⟨⟨b3, rfl, box_load ag_60 cn_60 hb6⟩, trivial⟩ ⟨_, rfl, rfl, he76⟩
      · intro hc78
        replace hF := bif_f hc78 hF
        refine WC.skip' ?_
        refine NX.seq ?_
        refine WC.seq ?_
        refine WC.seq ?_
        refine WC.region ?_
        refine TL.yld rfl rfl (yld_fieldAddr rfl fo_45_7 rfl) ?_
        refine TL.yld rfl rfl (yld_load1 7 rfl ag_4 rfl (Box.cells hb21) rfl rfl) ?_
        refine TL.done ?_
        refine NX.seq ?_
        refine WC.cond rfl ?_ ?_
        · intro hc79
          replace hF := bif_t hc79 hF
          refine WC.region ?_
          refine TL.yld rfl rfl (yld_fieldAddr rfl fo_60_0 rfl) ?_
          refine TL.yld rfl rfl (yld_load1 0 rfl ag_2 rfl (Box.cells hb46) rfl rfl) ?_
          refine TL.yld rfl rfl (yld_fieldAddr rfl fo_60_2 rfl) ?_
          refine TL.yld rfl rfl (yld_load1 2 rfl ag_2 rfl (Box.cells hb46) rfl rfl) ?_
          refine TL.yld rfl rfl (yld_fieldAddr rfl fo_60_1 rfl) ?_
          refine TL.yld rfl rfl (yld_load1 1 rfl ag_2 rfl (Box.cells hb46) rfl rfl) ?_
          refine TL.yld rfl rfl (yld_build (uss := [(0, [.int .i64 r37.period_]), (1, [.int .i64 r37.fall_]), (2, [.int .i64 r37.rise_])]) (out := [.int .i64 r37.period_, .int .i64 r37.fall_, .int .i64 r37.rise_]) rfl rfl zn_60 pl_60 rfl rfl) ?_
          refine TL.eff rfl rfl (eff_store rfl rfl rfl hb46 cn_60 rfl rfl) ?_
          rintro _ w80 ⟨hu81, hb82⟩
          have he83 : Ext w w80 := Below.trans he53 (Upd.below hu81 (by omega))
          have hb6 := Box.upd hb6 hu81 (by omega)
          have hb21 := Box.upd hb21 hu81 (by omega)
          have hz84 := (hu81).size
          have hb46 : Box w80 b43 [.int .i64 r37.period_, .int .i64 r37.fall_, .int .i64 r37.rise_] 60 := hb82
          refine TL.done ?_
          refine NX.seq ?_
          refine WC.seq ?_
          refine WC.region ?_
          refine TL.yld rfl rfl (yld_loadN (us := [.int .i64 r37.period_, .int .i64 r37.fall_, .int .i64 r37.rise_]) rfl ag_60 rfl (Box.cells hb46) cn_60) ?_
          refine TL.eff rfl rfl (eff_store rfl rfl rfl hb6 cn_60 rfl rfl) ?_
          rintro _ w85 ⟨hu86, hb87⟩
          have he88 : Ext w w85 := Below.trans he83 (Upd.below hu86 (by omega))
          have hb21 := Box.upd hb21 hu86 (by omega)
          have hb46 := Box.upd hb46 hu86 (by omega)
          have hz89 := (hu86).size
          have hb6 : Box w85 b3 [.int .i64 r37.period_, .int .i64 r37.fall_, .int .i64 r37.rise_] 60 := hb87
          refine TL.done ?_
          refine NX.seq ?_
          refine WC.ret' ?_
          obtain rfl := Option.some.inj hF
          exact NX.end (rs := [.cell 4 60]) (vs := [.agg #[.int .i64 r37.period_, .int .i64 r37.fall_, .int .i64 r37.rise_]]) rfl ⟨⟨b3, rfl, box_load ag_60 cn_60 hb6⟩, trivial⟩ ⟨_, rfl, rfl, he88⟩
        · intro hc90
          replace hF := bif_f hc90 hF
          refine WC.skip' ?_
          refine NX.seq ?_
          refine WC.seq ?_
          refine WC.region ?_
          refine TL.yld rfl rfl (yld_loadN (us := [.int .i64 r37.period_, .int .i64 r37.rise_, .int .i64 r37.fall_]) rfl ag_60 rfl (Box.cells hb46) cn_60) ?_
          refine TL.eff rfl rfl (eff_store rfl rfl rfl hb6 cn_60 rfl rfl) ?_
          rintro _ w91 ⟨hu92, hb93⟩
          have he94 : Ext w w91 := Below.trans he53 (Upd.below hu92 (by omega))
          have hb21 := Box.upd hb21 hu92 (by omega)
          have hb46 := Box.upd hb46 hu92 (by omega)
          have hz95 := (hu92).size
          have hb6 : Box w91 b3 [.int .i64 r37.period_, .int .i64 r37.rise_, .int .i64 r37.fall_] 60 := hb93
          refine TL.done ?_
          refine NX.seq ?_
          refine WC.ret' ?_
          obtain rfl := Option.some.inj hF
          exact NX.end (rs := [.cell 4 60]) (vs := [.agg #[.int .i64 r37.period_, .int .i64 r37.rise_, .int .i64 r37.fall_]]) rfl ⟨⟨b3, rfl, box_load ag_60 cn_60 hb6⟩, trivial⟩ ⟨_, rfl, rfl, he94⟩
termination_by n

-- loop.example/g00861/spec.l01In
def F_spec_l01In (n : Nat) (a0_n : Int) (a1_low : Int) (a2_high : Int) : Option Bool := (some (((decide (a0_n ≥ a1_low)) && (decide (a0_n ≤ a2_high)))))
set_option maxHeartbeats 40000000 in
theorem W_spec_l01In {n : Nat} {a0_n : Int} {a1_low : Int} {a2_high : Int} {r : Bool} {w : World} (hF : F_spec_l01In n a0_n a1_low a2_high = some r) :
    Calls Tryd.prog 47 [.int .i64 a0_n, .int .i64 a1_low, .int .i64 a2_high].toArray w (Ret fun u w2 => u = .bool r ∧ Ext w w2) := by
  refine calls_of Tryd.func47 rfl Tryd.ntmps47 ?_
  have he0 : Ext w w := Ext.refl w
  unfold F_spec_l01In at hF
  refine WC.seq ?_
  refine WC.region ?_
  refine TL.yld rfl rfl (yld_assign rfl rfl) ?_
  refine TL.done ?_
  refine NX.seq ?_
  refine WC.seq ?_
  refine WC.region ?_
  refine TL.yld rfl rfl (yld_move rfl rfl) ?_
  refine TL.yld rfl rfl (yld_move rfl rfl) ?_
  refine TL.yld rfl rfl (yld_geq rfl rfl rfl) ?_
  refine TL.yld rfl rfl (yld_move rfl rfl) ?_
  refine TL.cut 4 [(14, .bool (((decide (a0_n ≥ a1_low)) && (decide (a0_n ≤ a2_high)))))] (fun w' => Ext w w') ?_ ?_
  · rcases Bool.eq_false_or_eq_true (decide (a0_n ≥ a1_low)) with hg1 | hg1
    ·
      refine TL.gy (j := 3) (t := 10) rfl rfl rfl hg1 rfl (yld_move rfl rfl) ?_
      refine TL.gy (j := 3) (t := 10) rfl rfl rfl hg1 rfl (yld_move rfl rfl) ?_
      refine TL.gy (j := 3) (t := 10) rfl rfl rfl hg1 rfl (yld_leq rfl rfl rfl) ?_
      refine TL.yld rfl rfl (yld_and_t rfl rfl hg1 rfl) ?_
      exact TL.nil fun a h => ⟨h.weaken ⟨rfl, trivial⟩, Ext.refl _⟩
    ·
      refine TL.gnu (j := 3) (t := 10) rfl rfl rfl hg1 rfl ?_
      refine TL.gnu (j := 3) (t := 10) rfl rfl rfl hg1 rfl ?_
      refine TL.gnu (j := 3) (t := 10) rfl rfl rfl hg1 rfl ?_
      refine TL.yld rfl rfl (yld_and_f (b2 := decide (a0_n ≤ a2_high)) rfl rfl hg1 rfl) ?_
      exact TL.nil fun a h => ⟨h.weaken ⟨rfl, trivial⟩, Ext.refl _⟩
  intro w2 hx3
  have he4 : Ext w w2 := Ext.trans he0 hx3
  have hz5 := (hx3).size
  refine TL.yld rfl rfl (yld_assign rfl rfl) ?_
  refine TL.done ?_
  refine NX.seq ?_
  refine WC.ret' ?_
  obtain rfl := Option.some.inj hF
  exact NX.end (rs := [.tmp 6]) (vs := [.bool (((decide (a0_n ≥ a1_low)) && (decide (a0_n ≤ a2_high))))]) rfl ⟨rfl, trivial⟩ ⟨_, rfl, rfl, he4⟩

-- loop.example/g00861/spec.l03Name
def F_spec_l03Name_L1 (a0_s : ByteArray) (k0 : Int → Option Bool) : Nat → Int → Option Bool
  | 0 => fun _ => none
  | m + 1 => fun i3 => (bif decide (i3 < (a0_s.size : Int)) then (Option.bind (getB a0_s i3) fun x5 => (Option.bind (bif decide (x5 ≥ 97) then (Option.bind (getB a0_s i3) fun x7 => (some (decide (x7 ≤ 122)))) else (some false)) fun c7 => (Option.bind (getB a0_s i3) fun x16 => (Option.bind (bif decide (x16 ≥ 48) then (Option.bind (getB a0_s i3) fun x18 => (some (decide (x18 ≤ 57)))) else (some false)) fun c18 => (bif ((!c7) && ((!((c18 && (decide (i3 > 0))))))) then (some false) else (F_spec_l03Name_L1 a0_s k0 m (IntKind.wrap IntKind.i64 (i3 + 1)))))))) else (k0 i3))
theorem F_spec_l03Name_L1_z (a0_s : ByteArray) (k0 : Int → Option Bool) (i3 : Int) : F_spec_l03Name_L1 a0_s k0 0 i3 = none := rfl
theorem F_spec_l03Name_L1_s (m : Nat) (a0_s : ByteArray) (k0 : Int → Option Bool) (i3 : Int) : F_spec_l03Name_L1 a0_s k0 (m + 1) i3 = (bif decide (i3 < (a0_s.size : Int)) then (Option.bind (getB a0_s i3) fun x5 => (Option.bind (bif decide (x5 ≥ 97) then (Option.bind (getB a0_s i3) fun x7 => (some (decide (x7 ≤ 122)))) else (some false)) fun c7 => (Option.bind (getB a0_s i3) fun x16 => (Option.bind (bif decide (x16 ≥ 48) then (Option.bind (getB a0_s i3) fun x18 => (some (decide (x18 ≤ 57)))) else (some false)) fun c18 => (bif ((!c7) && ((!((c18 && (decide (i3 > 0))))))) then (some false) else (F_spec_l03Name_L1 a0_s k0 m (IntKind.wrap IntKind.i64 (i3 + 1)))))))) else (k0 i3)) := rfl

def F_spec_l03Name (n : Nat) (a0_s : ByteArray) : Option Bool := (F_spec_l03Name_L1 a0_s (fun i3 => (some (((decide ((a0_s.size : Int) ≥ 1)) && (decide ((a0_s.size : Int) ≤ 8)))))) n 0)
set_option maxHeartbeats 40000000 in
theorem W_spec_l03Name {n : Nat} {a0_s : ByteArray} {r : Bool} {w : World} (hF : F_spec_l03Name n a0_s = some r) :
    Calls Tryd.prog 71 [.string a0_s].toArray w (Ret fun u w2 => u = .bool r ∧ Ext w w2) := by
  refine calls_of Tryd.func71 rfl Tryd.ntmps71 ?_
  have he0 : Ext w w := Ext.refl w
  unfold F_spec_l03Name at hF
  refine WC.seq ?_
  refine WC.region ?_
  refine TL.yld rfl rfl (yld_assign rfl rfl) ?_
  refine TL.done ?_
  refine NX.seq ?_
  refine WC.seq ?_
  refine WC.seq ?_
  refine WC.region ?_
  refine TL.yld rfl rfl (yld_assign rfl rfl) ?_
  refine TL.done ?_
  refine NX.seq ?_
  refine WC.block ?_
  refine WC.loop (fun m4 a wl => ∃ (i3 : Int), Kn 50 [(0, .string a0_s), (3, .int .i64 i3)] a ∧ Ext w wl ∧ w.heap.size ≤ wl.heap.size ∧ F_spec_l03Name_L1 a0_s (fun i3 => (some (((decide ((a0_s.size : Int) ≥ 1)) && (decide ((a0_s.size : Int) ≤ 8)))))) m4 i3 = some r) n ?_ ?_
  · intro a hK; exact ⟨0, hK.weaken ⟨rfl, rfl, trivial⟩, he0, Nat.le_refl _, hF⟩
  · rintro m4 a w1 ⟨i3, hK, he2, hz5, hF⟩
    revert hK; revert a; refine (?_ : WC _ _ _ _ _ _)
    cases m4 with
    | zero => rw [F_spec_l03Name_L1_z] at hF; cases hF
    | succ m4 =>
      rw [F_spec_l03Name_L1_s] at hF
      refine WC.seq ?_
      refine WC.seq ?_
      refine WC.region ?_
      refine TL.yld rfl rfl (yld_move rfl rfl) ?_
      refine TL.yld rfl rfl (yld_move rfl rfl) ?_
      refine TL.yld rfl rfl (yld_lens rfl Tryd.underlying9 rfl) ?_
      refine TL.yld rfl rfl (yld_lss rfl rfl rfl) ?_
      refine TL.done ?_
      refine NX.seq ?_
      refine WC.cond rfl ?_ ?_
      · intro hc6
        replace hF := bif_t hc6 hF
        refine WC.skip' ?_
        refine NX.seq ?_
        refine WC.seq ?_
        refine WC.block ?_
        refine WC.seq ?_
        refine WC.region ?_
        refine TL.yld rfl rfl (yld_move rfl rfl) ?_
        refine TL.yld rfl rfl (yld_move rfl rfl) ?_
        obtain ⟨x7, hy8, hF⟩ := bsome hF
        refine TL.yld rfl rfl (yld_indexStr rfl Tryd.underlying9 rfl rfl hy8) ?_
        refine TL.yld rfl rfl (yld_geq rfl rfl rfl) ?_
        refine TL.yld rfl rfl (yld_move rfl rfl) ?_
        obtain ⟨c9, hb10, hF⟩ := bsome hF
        refine TL.cut 5 [(0, .string a0_s), (3, .int .i64 i3), (21, .bool c9)] (fun w' => Ext w1 w') ?_ ?_
        · rcases Bool.eq_false_or_eq_true (decide (x7 ≥ 97)) with hg11 | hg11
          ·
            rw [hg11] at hb10; simp only [cond_true, cond_false] at hb10
            replace hF := hb10
            refine TL.gy (j := 4) (t := 16) rfl rfl rfl hg11 rfl (yld_move rfl rfl) ?_
            refine TL.gy (j := 4) (t := 16) rfl rfl rfl hg11 rfl (yld_move rfl rfl) ?_
            obtain ⟨x12, hy13, hF⟩ := bsome hF
            refine TL.gy (j := 4) (t := 16) rfl rfl rfl hg11 rfl (yld_indexStr rfl Tryd.underlying9 rfl rfl hy13) ?_
            refine TL.gy (j := 4) (t := 16) rfl rfl rfl hg11 rfl (yld_leq rfl rfl rfl) ?_
            obtain rfl := Option.some.inj hF
            refine TL.yld rfl rfl (yld_pick_t rfl rfl hg11 rfl) ?_
            exact TL.nil fun a h => ⟨h.weaken ⟨rfl, rfl, rfl, trivial⟩, Ext.refl _⟩
          ·
            rw [hg11] at hb10; simp only [cond_true, cond_false] at hb10
            refine TL.gnu (j := 4) (t := 16) rfl rfl rfl hg11 rfl ?_
            refine TL.gnu (j := 4) (t := 16) rfl rfl rfl hg11 rfl ?_
            refine TL.gnu (j := 4) (t := 16) rfl rfl rfl hg11 rfl ?_
            refine TL.gnu (j := 4) (t := 16) rfl rfl rfl hg11 rfl ?_
            obtain rfl := Option.some.inj hb10
            refine TL.yld rfl rfl (yld_pick_f rfl rfl hg11 rfl) ?_
            exact TL.nil fun a h => ⟨h.weaken ⟨rfl, rfl, rfl, trivial⟩, Ext.refl _⟩
        intro w14 hx15
        have he16 : Ext w w14 := Ext.trans he2 hx15
        have hz17 := (hx15).size
        refine TL.yld rfl rfl (yld_assign rfl rfl) ?_
        refine TL.done ?_
        refine NX.seq ?_
        refine WC.seq ?_
        refine WC.region ?_
        refine TL.yld rfl rfl (yld_move rfl rfl) ?_
        refine TL.yld rfl rfl (yld_move rfl rfl) ?_
        obtain ⟨x18, hy19, hF⟩ := bsome hF
        refine TL.yld rfl rfl (yld_indexStr rfl Tryd.underlying9 rfl rfl hy19) ?_
        refine TL.yld rfl rfl (yld_geq rfl rfl rfl) ?_
        refine TL.yld rfl rfl (yld_move rfl rfl) ?_
        obtain ⟨c20, hb21, hF⟩ := bsome hF
        refine TL.cut 5 [(0, .string a0_s), (3, .int .i64 i3), (4, .bool c9), (31, .bool c20)] (fun w' => Ext w14 w') ?_ ?_
        · rcases Bool.eq_false_or_eq_true (decide (x18 ≥ 48)) with hg22 | hg22
          ·
            rw [hg22] at hb21; simp only [cond_true, cond_false] at hb21
            replace hF := hb21
            refine TL.gy (j := 4) (t := 26) rfl rfl rfl hg22 rfl (yld_move rfl rfl) ?_
            refine TL.gy (j := 4) (t := 26) rfl rfl rfl hg22 rfl (yld_move rfl rfl) ?_
            obtain ⟨x23, hy24, hF⟩ := bsome hF
            refine TL.gy (j := 4) (t := 26) rfl rfl rfl hg22 rfl (yld_indexStr rfl Tryd.underlying9 rfl rfl hy24) ?_
            refine TL.gy (j := 4) (t := 26) rfl rfl rfl hg22 rfl (yld_leq rfl rfl rfl) ?_
            obtain rfl := Option.some.inj hF
            refine TL.yld rfl rfl (yld_pick_t rfl rfl hg22 rfl) ?_
            exact TL.nil fun a h => ⟨h.weaken ⟨rfl, rfl, rfl, rfl, trivial⟩, Ext.refl _⟩
          ·
            rw [hg22] at hb21; simp only [cond_true, cond_false] at hb21
            refine TL.gnu (j := 4) (t := 26) rfl rfl rfl hg22 rfl ?_
            refine TL.gnu (j := 4) (t := 26) rfl rfl rfl hg22 rfl ?_
            refine TL.gnu (j := 4) (t := 26) rfl rfl rfl hg22 rfl ?_
            refine TL.gnu (j := 4) (t := 26) rfl rfl rfl hg22 rfl ?_
            obtain rfl := Option.some.inj hb21
            refine TL.yld rfl rfl (yld_pick_f rfl rfl hg22 rfl) ?_
            exact TL.nil fun a h => ⟨h.weaken ⟨rfl, rfl, rfl, rfl, trivial⟩, Ext.refl _⟩
        intro w25 hx26
        have he27 : Ext w w25 := Ext.trans he16 hx26
        have hz28 := (hx26).size
        refine TL.yld rfl rfl (yld_assign rfl rfl) ?_
        refine TL.done ?_
        refine NX.seq ?_
        refine WC.seq ?_
        refine WC.region ?_
        refine TL.yld rfl rfl (yld_move rfl rfl) ?_
        refine TL.yld rfl rfl (yld_not rfl rfl) ?_
        refine TL.yld rfl rfl (yld_move rfl rfl) ?_
        refine TL.cut 7 [(0, .string a0_s), (3, .int .i64 i3), (41, .bool (((!c9) && ((!((c20 && (decide (i3 > 0)))))))))] (fun w' => Ext w25 w') ?_ ?_
        · rcases Bool.eq_false_or_eq_true (!c9) with hg29 | hg29
          ·
            refine TL.gy (j := 2) (t := 34) rfl rfl rfl hg29 rfl (yld_move rfl rfl) ?_
            refine TL.gy (j := 2) (t := 34) rfl rfl rfl hg29 rfl (yld_move rfl rfl) ?_
            refine TL.cut 3 [(0, .string a0_s), (3, .int .i64 i3), (34, .bool (!c9)), (35, .bool c20), (36, .bool c20), (39, .bool ((c20 && (decide (i3 > 0)))))] (fun w' => Ext w25 w') ?_ ?_
            · rcases Bool.eq_false_or_eq_true c20 with hg30 | hg30
              ·
                refine TL.gy (j := 4) (t := 36) rfl rfl rfl hg30 rfl (yld_move rfl rfl) ?_
                refine TL.gy (j := 4) (t := 36) rfl rfl rfl hg30 rfl (yld_gtr rfl rfl rfl) ?_
                refine TL.gy (j := 2) (t := 34) rfl rfl rfl hg29 rfl (yld_and_t rfl rfl hg30 rfl) ?_
                exact TL.nil fun a h => ⟨h.weaken ⟨rfl, rfl, rfl, rfl, rfl, rfl, trivial⟩, Ext.refl _⟩
              ·
                refine TL.gnu (j := 4) (t := 36) rfl rfl rfl hg30 rfl ?_
                refine TL.gnu (j := 4) (t := 36) rfl rfl rfl hg30 rfl ?_
                refine TL.gy (j := 2) (t := 34) rfl rfl rfl hg29 rfl (yld_and_f (b2 := decide (i3 > 0)) rfl rfl hg30 rfl) ?_
                exact TL.nil fun a h => ⟨h.weaken ⟨rfl, rfl, rfl, rfl, rfl, rfl, trivial⟩, Ext.refl _⟩
            intro w31 hx32
            have he33 : Ext w w31 := Ext.trans he27 hx32
            have hz34 := (hx32).size
            refine TL.gy (j := 2) (t := 34) rfl rfl rfl hg29 rfl (yld_not rfl rfl) ?_
            refine TL.yld rfl rfl (yld_and_t rfl rfl hg29 rfl) ?_
            exact TL.nil fun a h => ⟨h.weaken ⟨rfl, rfl, rfl, trivial⟩, hx32⟩
          ·
            refine TL.gnu (j := 2) (t := 34) rfl rfl rfl hg29 rfl ?_
            refine TL.gnu (j := 2) (t := 34) rfl rfl rfl hg29 rfl ?_
            refine TL.gu (j := 4) (t := 36) rfl rfl rfl rfl ?_
            refine TL.gu (j := 4) (t := 36) rfl rfl rfl rfl ?_
            refine TL.gnu (j := 2) (t := 34) rfl rfl rfl hg29 rfl ?_
            refine TL.gnu (j := 2) (t := 34) rfl rfl rfl hg29 rfl ?_
            refine TL.yld rfl rfl (yld_and_f (b2 := (!((c20 && (decide (i3 > 0)))))) rfl rfl hg29 rfl) ?_
            exact TL.nil fun a h => ⟨h.weaken ⟨rfl, rfl, rfl, trivial⟩, Ext.refl _⟩
        intro w35 hx36
        have he37 : Ext w w35 := Ext.trans he27 hx36
        have hz38 := (hx36).size
        refine TL.done ?_
        refine NX.seq ?_
        refine WC.cond rfl ?_ ?_
        · intro hc39
          replace hF := bif_t hc39 hF
          refine WC.seq ?_
          refine WC.region ?_
          refine TL.yld rfl rfl (yld_assign rfl rfl) ?_
          refine TL.done ?_
          refine NX.seq ?_
          refine WC.ret' ?_
          refine NX.blk_r ?_
          refine NX.then_r ?_
          refine NX.then_r ?_
          refine NX.blk_r ?_
          refine NX.then_r ?_
          obtain rfl := Option.some.inj hF
          exact NX.end (rs := [.tmp 2]) (vs := [.bool false]) rfl ⟨rfl, trivial⟩ ⟨_, rfl, rfl, he37⟩
        · intro hc40
          replace hF := bif_f hc40 hF
          refine WC.skip' ?_
          refine NX.blk_n ?_
          refine NX.seq ?_
          refine WC.region ?_
          refine TL.yld rfl rfl (yld_move rfl rfl) ?_
          refine TL.yld rfl rfl (yld_add rfl rfl rfl) ?_
          refine TL.yld rfl rfl (yld_assign rfl rfl) ?_
          refine TL.done ?_
          refine NX.then_n ?_
          intro a hK; exact ⟨m4, Nat.lt_succ_self m4, (IntKind.wrap IntKind.i64 (i3 + 1)), hK.weaken ⟨rfl, rfl, trivial⟩, he37, (by omega), hF⟩
      · intro hc41
        replace hF := bif_f hc41 hF
        refine WC.exit' ?_
        refine NX.then_e ?_
        refine NX.then_e ?_
        refine NX.blk_hit ?_
        refine NX.seq ?_
        refine WC.seq ?_
        refine WC.region ?_
        refine TL.yld rfl rfl (yld_move rfl rfl) ?_
        refine TL.yld rfl rfl (yld_lens rfl Tryd.underlying9 rfl) ?_
        refine TL.yld rfl rfl (yld_geq rfl rfl rfl) ?_
        refine TL.yld rfl rfl (yld_move rfl rfl) ?_
        refine TL.cut 4 [(49, .bool (((decide ((a0_s.size : Int) ≥ 1)) && (decide ((a0_s.size : Int) ≤ 8)))))] (fun w' => Ext w1 w') ?_ ?_
        · rcases Bool.eq_false_or_eq_true (decide ((a0_s.size : Int) ≥ 1)) with hg42 | hg42
          ·
            refine TL.gy (j := 3) (t := 45) rfl rfl rfl hg42 rfl (yld_move rfl rfl) ?_
            refine TL.gy (j := 3) (t := 45) rfl rfl rfl hg42 rfl (yld_lens rfl Tryd.underlying9 rfl) ?_
            refine TL.gy (j := 3) (t := 45) rfl rfl rfl hg42 rfl (yld_leq rfl rfl rfl) ?_
            refine TL.yld rfl rfl (yld_and_t rfl rfl hg42 rfl) ?_
            exact TL.nil fun a h => ⟨h.weaken ⟨rfl, trivial⟩, Ext.refl _⟩
          ·
            refine TL.gnu (j := 3) (t := 45) rfl rfl rfl hg42 rfl ?_
            refine TL.gnu (j := 3) (t := 45) rfl rfl rfl hg42 rfl ?_
            refine TL.gnu (j := 3) (t := 45) rfl rfl rfl hg42 rfl ?_
            refine TL.yld rfl rfl (yld_and_f (b2 := decide ((a0_s.size : Int) ≤ 8)) rfl rfl hg42 rfl) ?_
            exact TL.nil fun a h => ⟨h.weaken ⟨rfl, trivial⟩, Ext.refl _⟩
        intro w43 hx44
        have he45 : Ext w w43 := Ext.trans he2 hx44
        have hz46 := (hx44).size
        refine TL.yld rfl rfl (yld_assign rfl rfl) ?_
        refine TL.done ?_
        refine NX.seq ?_
        refine WC.ret' ?_
        obtain rfl := Option.some.inj hF
        exact NX.end (rs := [.tmp 2]) (vs := [.bool (((decide ((a0_s.size : Int) ≥ 1)) && (decide ((a0_s.size : Int) ≤ 8))))]) rfl ⟨rfl, trivial⟩ ⟨_, rfl, rfl, he45⟩

-- loop.example/g00861/spec.l14Plain
def F_spec_l14Plain (n : Nat) (a0_c : S_Clock) : Option Bool := (Option.bind (F_spec_l03Name n a0_c.Name) fun r8 => (Option.bind (bif (r8 && (decide (a0_c.Place ≥ 0))) then (Option.bind (F_spec_l01In n a0_c.EarlyLatency 0 100000) fun r19 => (some r19)) else (some false)) fun c19 => (Option.bind (bif c19 then (Option.bind (F_spec_l01In n a0_c.LateLatency a0_c.EarlyLatency 100000) fun r32 => (some r32)) else (some false)) fun c32 => (Option.bind (bif c32 then (Option.bind (F_spec_l01In n a0_c.Uncertainty 0 100000) fun r45 => (some r45)) else (some false)) fun c45 => (some c45)))))
set_option maxHeartbeats 40000000 in
theorem W_spec_l14Plain {n : Nat} {a0_c : S_Clock} {r : Bool} {w : World} (hF : F_spec_l14Plain n a0_c = some r) :
    Calls Tryd.prog 45 [.agg #[.string a0_c.Name, .int .i64 a0_c.Place, .int .i64 a0_c.Period, .int .i64 a0_c.RiseAt, .int .i64 a0_c.FallAt, .int .i64 a0_c.Source, .int .i64 a0_c.Divide, .bool a0_c.Invert, .int .i64 a0_c.EarlyLatency, .int .i64 a0_c.LateLatency, .int .i64 a0_c.Uncertainty]].toArray w (Ret fun u w2 => u = .bool r ∧ Ext w w2) := by
  refine calls_of Tryd.func45 rfl Tryd.ntmps45 ?_
  have he0 : Ext w w := Ext.refl w
  unfold F_spec_l14Plain at hF
  refine WC.seq ?_
  refine WC.region ?_
  refine TL.eff rfl rfl (eff_box rfl rfl) ?_
  rintro _ w2 ⟨b1, rfl, hn3⟩
  obtain ⟨hn3e, hn3s, hn3x, hb4⟩ := hn3
  have hb4 : Box w2 b1 [.string a0_c.Name, .int .i64 a0_c.Place, .int .i64 a0_c.Period, .int .i64 a0_c.RiseAt, .int .i64 a0_c.FallAt, .int .i64 a0_c.Source, .int .i64 a0_c.Divide, .bool a0_c.Invert, .int .i64 a0_c.EarlyLatency, .int .i64 a0_c.LateLatency, .int .i64 a0_c.Uncertainty] 45 := hb4
  have he6 : Ext w w2 := Ext.trans he0 hn3x
  have hz7 := (hn3x).size
  have hlo5 : w.heap.size ≤ b1 := by rw [hn3e]; exact (he0).size
  refine TL.yld rfl rfl (yld_assign rfl rfl) ?_
  refine TL.done ?_
  refine NX.seq ?_
  refine WC.seq ?_
  refine WC.region ?_
  refine TL.yld rfl rfl (yld_fieldAddr rfl fo_45_0 rfl) ?_
  refine TL.yld rfl rfl (yld_load1 0 rfl ag_9 rfl (Box.cells hb4) rfl rfl) ?_
  obtain ⟨r8, hr9, hF⟩ := bsome hF
  refine TL.eff rfl rfl (eff_call rfl gf_71 rfl (W_spec_l03Name hr9)) ?_
  rintro _ w10 ⟨rfl, hx11⟩
  have he12 : Ext w w10 := Ext.trans he6 hx11
  have hb4 := Box.ext hb4 hx11
  have hz13 := (hx11).size
  refine TL.yld rfl rfl (yld_move rfl rfl) ?_
  refine TL.cut 4 [(1, .pointer (some ⟨b1, 0, none⟩)), (10, .bool ((r8 && (decide (a0_c.Place ≥ 0)))))] (fun w' => Ext w10 w') ?_ ?_
  · rcases Bool.eq_false_or_eq_true r8 with hg14 | hg14
    ·
      refine TL.gy (j := 3) (t := 6) rfl rfl rfl hg14 rfl (yld_fieldAddr rfl fo_45_1 rfl) ?_
      refine TL.gy (j := 3) (t := 6) rfl rfl rfl hg14 rfl (yld_load1 1 rfl ag_2 rfl (Box.cells hb4) rfl rfl) ?_
      refine TL.gy (j := 3) (t := 6) rfl rfl rfl hg14 rfl (yld_geq rfl rfl rfl) ?_
      refine TL.yld rfl rfl (yld_and_t rfl rfl hg14 rfl) ?_
      exact TL.nil fun a h => ⟨h.weaken ⟨rfl, rfl, trivial⟩, Ext.refl _⟩
    ·
      refine TL.gnu (j := 3) (t := 6) rfl rfl rfl hg14 rfl ?_
      refine TL.gnu (j := 3) (t := 6) rfl rfl rfl hg14 rfl ?_
      refine TL.gnu (j := 3) (t := 6) rfl rfl rfl hg14 rfl ?_
      refine TL.yld rfl rfl (yld_and_f (b2 := decide (a0_c.Place ≥ 0)) rfl rfl hg14 rfl) ?_
      exact TL.nil fun a h => ⟨h.weaken ⟨rfl, rfl, trivial⟩, Ext.refl _⟩
  intro w15 hx16
  have he17 : Ext w w15 := Ext.trans he12 hx16
  have hb4 := Box.ext hb4 hx16
  have hz18 := (hx16).size
  refine TL.yld rfl rfl (yld_move rfl rfl) ?_
  obtain ⟨c19, hb20, hF⟩ := bsome hF
  refine TL.cut 4 [(1, .pointer (some ⟨b1, 0, none⟩)), (15, .bool c19)] (fun w' => Ext w15 w') ?_ ?_
  · rcases Bool.eq_false_or_eq_true ((r8 && (decide (a0_c.Place ≥ 0)))) with hg21 | hg21
    ·
      rw [hg21] at hb20; simp only [cond_true, cond_false] at hb20
      replace hF := hb20
      refine TL.gy (j := 8) (t := 11) rfl rfl rfl hg21 rfl (yld_fieldAddr rfl fo_45_8 rfl) ?_
      refine TL.gy (j := 8) (t := 11) rfl rfl rfl hg21 rfl (yld_load1 8 rfl ag_2 rfl (Box.cells hb4) rfl rfl) ?_
      obtain ⟨r22, hr23, hF⟩ := bsome hF
      refine TL.ge (j := 8) (t := 11) rfl rfl rfl hg21 rfl (eff_call rfl gf_47 rfl (W_spec_l01In hr23)) ?_
      rintro _ w24 ⟨rfl, hx25⟩
      have he26 : Ext w w24 := Ext.trans he17 hx25
      have hb4 := Box.ext hb4 hx25
      have hz27 := (hx25).size
      obtain rfl := Option.some.inj hF
      refine TL.yld rfl rfl (yld_pick_t rfl rfl hg21 rfl) ?_
      exact TL.nil fun a h => ⟨h.weaken ⟨rfl, rfl, trivial⟩, hx25⟩
    ·
      rw [hg21] at hb20; simp only [cond_true, cond_false] at hb20
      refine TL.gnu (j := 8) (t := 11) rfl rfl rfl hg21 rfl ?_
      refine TL.gnu (j := 8) (t := 11) rfl rfl rfl hg21 rfl ?_
      refine TL.gnu (j := 8) (t := 11) rfl rfl rfl hg21 rfl ?_
      obtain rfl := Option.some.inj hb20
      refine TL.yld rfl rfl (yld_pick_f rfl rfl hg21 rfl) ?_
      exact TL.nil fun a h => ⟨h.weaken ⟨rfl, rfl, trivial⟩, Ext.refl _⟩
  intro w28 hx29
  have he30 : Ext w w28 := Ext.trans he17 hx29
  have hb4 := Box.ext hb4 hx29
  have hz31 := (hx29).size
  refine TL.yld rfl rfl (yld_move rfl rfl) ?_
  obtain ⟨c32, hb33, hF⟩ := bsome hF
  refine TL.cut 6 [(1, .pointer (some ⟨b1, 0, none⟩)), (22, .bool c32)] (fun w' => Ext w28 w') ?_ ?_
  · rcases Bool.eq_false_or_eq_true c19 with hg34 | hg34
    ·
      rw [hg34] at hb33; simp only [cond_true, cond_false] at hb33
      replace hF := hb33
      refine TL.gy (j := 13) (t := 16) rfl rfl rfl hg34 rfl (yld_fieldAddr rfl fo_45_9 rfl) ?_
      refine TL.gy (j := 13) (t := 16) rfl rfl rfl hg34 rfl (yld_load1 9 rfl ag_2 rfl (Box.cells hb4) rfl rfl) ?_
      refine TL.gy (j := 13) (t := 16) rfl rfl rfl hg34 rfl (yld_fieldAddr rfl fo_45_8 rfl) ?_
      refine TL.gy (j := 13) (t := 16) rfl rfl rfl hg34 rfl (yld_load1 8 rfl ag_2 rfl (Box.cells hb4) rfl rfl) ?_
      obtain ⟨r35, hr36, hF⟩ := bsome hF
      refine TL.ge (j := 13) (t := 16) rfl rfl rfl hg34 rfl (eff_call rfl gf_47 rfl (W_spec_l01In hr36)) ?_
      rintro _ w37 ⟨rfl, hx38⟩
      have he39 : Ext w w37 := Ext.trans he30 hx38
      have hb4 := Box.ext hb4 hx38
      have hz40 := (hx38).size
      obtain rfl := Option.some.inj hF
      refine TL.yld rfl rfl (yld_pick_t rfl rfl hg34 rfl) ?_
      exact TL.nil fun a h => ⟨h.weaken ⟨rfl, rfl, trivial⟩, hx38⟩
    ·
      rw [hg34] at hb33; simp only [cond_true, cond_false] at hb33
      refine TL.gnu (j := 13) (t := 16) rfl rfl rfl hg34 rfl ?_
      refine TL.gnu (j := 13) (t := 16) rfl rfl rfl hg34 rfl ?_
      refine TL.gnu (j := 13) (t := 16) rfl rfl rfl hg34 rfl ?_
      refine TL.gnu (j := 13) (t := 16) rfl rfl rfl hg34 rfl ?_
      refine TL.gnu (j := 13) (t := 16) rfl rfl rfl hg34 rfl ?_
      obtain rfl := Option.some.inj hb33
      refine TL.yld rfl rfl (yld_pick_f rfl rfl hg34 rfl) ?_
      exact TL.nil fun a h => ⟨h.weaken ⟨rfl, rfl, trivial⟩, Ext.refl _⟩
  intro w41 hx42
  have he43 : Ext w w41 := Ext.trans he30 hx42
  have hb4 := Box.ext hb4 hx42
  have hz44 := (hx42).size
  refine TL.yld rfl rfl (yld_move rfl rfl) ?_
  obtain ⟨c45, hb46, hF⟩ := bsome hF
  refine TL.cut 4 [(27, .bool c45)] (fun w' => Ext w41 w') ?_ ?_
  · rcases Bool.eq_false_or_eq_true c32 with hg47 | hg47
    ·
      rw [hg47] at hb46; simp only [cond_true, cond_false] at hb46
      replace hF := hb46
      refine TL.gy (j := 20) (t := 23) rfl rfl rfl hg47 rfl (yld_fieldAddr rfl fo_45_10 rfl) ?_
      refine TL.gy (j := 20) (t := 23) rfl rfl rfl hg47 rfl (yld_load1 10 rfl ag_2 rfl (Box.cells hb4) rfl rfl) ?_
      obtain ⟨r48, hr49, hF⟩ := bsome hF
      refine TL.ge (j := 20) (t := 23) rfl rfl rfl hg47 rfl (eff_call rfl gf_47 rfl (W_spec_l01In hr49)) ?_
      rintro _ w50 ⟨rfl, hx51⟩
      have he52 : Ext w w50 := Ext.trans he43 hx51
      have hb4 := Box.ext hb4 hx51
      have hz53 := (hx51).size
      obtain rfl := Option.some.inj hF
      refine TL.yld rfl rfl (yld_pick_t rfl rfl hg47 rfl) ?_
      exact TL.nil fun a h => ⟨h.weaken ⟨rfl, trivial⟩, hx51⟩
    ·
      rw [hg47] at hb46; simp only [cond_true, cond_false] at hb46
      refine TL.gnu (j := 20) (t := 23) rfl rfl rfl hg47 rfl ?_
      refine TL.gnu (j := 20) (t := 23) rfl rfl rfl hg47 rfl ?_
      refine TL.gnu (j := 20) (t := 23) rfl rfl rfl hg47 rfl ?_
      obtain rfl := Option.some.inj hb46
      refine TL.yld rfl rfl (yld_pick_f rfl rfl hg47 rfl) ?_
      exact TL.nil fun a h => ⟨h.weaken ⟨rfl, trivial⟩, Ext.refl _⟩
  intro w54 hx55
  have he56 : Ext w w54 := Ext.trans he43 hx55
  have hb4 := Box.ext hb4 hx55
  have hz57 := (hx55).size
  refine TL.yld rfl rfl (yld_assign rfl rfl) ?_
  refine TL.done ?_
  refine NX.seq ?_
  refine WC.ret' ?_
  obtain rfl := Option.some.inj hF
  exact NX.end (rs := [.tmp 2]) (vs := [.bool c45]) rfl ⟨rfl, trivial⟩ ⟨_, rfl, rfl, he56⟩

-- loop.example/g00861/spec.l14Primary
def F_spec_l14Primary (n : Nat) (a0_c : S_Clock) : Option Bool := (Option.bind (F_spec_l01In n a0_c.Period 2 100000) fun r8 => (Option.bind (bif r8 then (Option.bind (F_spec_l01In n a0_c.RiseAt 0 (IntKind.wrap IntKind.i64 (a0_c.Period - 1))) fun r14 => (some r14)) else (some false)) fun c14 => (Option.bind (bif c14 then (Option.bind (F_spec_l01In n a0_c.FallAt 0 (IntKind.wrap IntKind.i64 (a0_c.Period - 1))) fun r27 => (some r27)) else (some false)) fun c27 => (some ((((((c27 && ((a0_c.RiseAt != a0_c.FallAt)))) && ((a0_c.Divide == 1)))) && (!a0_c.Invert)))))))
set_option maxHeartbeats 40000000 in
theorem W_spec_l14Primary {n : Nat} {a0_c : S_Clock} {r : Bool} {w : World} (hF : F_spec_l14Primary n a0_c = some r) :
    Calls Tryd.prog 46 [.agg #[.string a0_c.Name, .int .i64 a0_c.Place, .int .i64 a0_c.Period, .int .i64 a0_c.RiseAt, .int .i64 a0_c.FallAt, .int .i64 a0_c.Source, .int .i64 a0_c.Divide, .bool a0_c.Invert, .int .i64 a0_c.EarlyLatency, .int .i64 a0_c.LateLatency, .int .i64 a0_c.Uncertainty]].toArray w (Ret fun u w2 => u = .bool r ∧ Ext w w2) := by
  refine calls_of Tryd.func46 rfl Tryd.ntmps46 ?_
  have he0 : Ext w w := Ext.refl w
  unfold F_spec_l14Primary at hF
  refine WC.seq ?_
  refine WC.region ?_
  refine TL.eff rfl rfl (eff_box rfl rfl) ?_
  rintro _ w2 ⟨b1, rfl, hn3⟩
  obtain ⟨hn3e, hn3s, hn3x, hb4⟩ := hn3
  have hb4 : Box w2 b1 [.string a0_c.Name, .int .i64 a0_c.Place, .int .i64 a0_c.Period, .int .i64 a0_c.RiseAt, .int .i64 a0_c.FallAt, .int .i64 a0_c.Source, .int .i64 a0_c.Divide, .bool a0_c.Invert, .int .i64 a0_c.EarlyLatency, .int .i64 a0_c.LateLatency, .int .i64 a0_c.Uncertainty] 45 := hb4
  have he6 : Ext w w2 := Ext.trans he0 hn3x
  have hz7 := (hn3x).size
  have hlo5 : w.heap.size ≤ b1 := by rw [hn3e]; exact (he0).size
  refine TL.yld rfl rfl (yld_assign rfl rfl) ?_
  refine TL.done ?_
  refine NX.seq ?_
  refine WC.seq ?_
  refine WC.region ?_
  refine TL.yld rfl rfl (yld_fieldAddr rfl fo_45_2 rfl) ?_
  refine TL.yld rfl rfl (yld_load1 2 rfl ag_2 rfl (Box.cells hb4) rfl rfl) ?_
  obtain ⟨r8, hr9, hF⟩ := bsome hF
  refine TL.eff rfl rfl (eff_call rfl gf_47 rfl (W_spec_l01In hr9)) ?_
  rintro _ w10 ⟨rfl, hx11⟩
  have he12 : Ext w w10 := Ext.trans he6 hx11
  have hb4 := Box.ext hb4 hx11
  have hz13 := (hx11).size
  refine TL.yld rfl rfl (yld_move rfl rfl) ?_
  obtain ⟨c14, hb15, hF⟩ := bsome hF
  refine TL.cut 7 [(1, .pointer (some ⟨b1, 0, none⟩)), (13, .bool c14)] (fun w' => Ext w10 w') ?_ ?_
  · rcases Bool.eq_false_or_eq_true r8 with hg16 | hg16
    ·
      rw [hg16] at hb15; simp only [cond_true, cond_false] at hb15
      replace hF := hb15
      refine TL.gy (j := 3) (t := 6) rfl rfl rfl hg16 rfl (yld_fieldAddr rfl fo_45_3 rfl) ?_
      refine TL.gy (j := 3) (t := 6) rfl rfl rfl hg16 rfl (yld_load1 3 rfl ag_2 rfl (Box.cells hb4) rfl rfl) ?_
      refine TL.gy (j := 3) (t := 6) rfl rfl rfl hg16 rfl (yld_fieldAddr rfl fo_45_2 rfl) ?_
      refine TL.gy (j := 3) (t := 6) rfl rfl rfl hg16 rfl (yld_load1 2 rfl ag_2 rfl (Box.cells hb4) rfl rfl) ?_
      refine TL.gy (j := 3) (t := 6) rfl rfl rfl hg16 rfl (yld_sub rfl rfl rfl) ?_
      obtain ⟨r17, hr18, hF⟩ := bsome hF
      refine TL.ge (j := 3) (t := 6) rfl rfl rfl hg16 rfl (eff_call rfl gf_47 rfl (W_spec_l01In hr18)) ?_
      rintro _ w19 ⟨rfl, hx20⟩
      have he21 : Ext w w19 := Ext.trans he12 hx20
      have hb4 := Box.ext hb4 hx20
      have hz22 := (hx20).size
      obtain rfl := Option.some.inj hF
      refine TL.yld rfl rfl (yld_pick_t rfl rfl hg16 rfl) ?_
      exact TL.nil fun a h => ⟨h.weaken ⟨rfl, rfl, trivial⟩, hx20⟩
    ·
      rw [hg16] at hb15; simp only [cond_true, cond_false] at hb15
      refine TL.gnu (j := 3) (t := 6) rfl rfl rfl hg16 rfl ?_
      refine TL.gnu (j := 3) (t := 6) rfl rfl rfl hg16 rfl ?_
      refine TL.gnu (j := 3) (t := 6) rfl rfl rfl hg16 rfl ?_
      refine TL.gnu (j := 3) (t := 6) rfl rfl rfl hg16 rfl ?_
      refine TL.gnu (j := 3) (t := 6) rfl rfl rfl hg16 rfl ?_
      refine TL.gnu (j := 3) (t := 6) rfl rfl rfl hg16 rfl ?_
      obtain rfl := Option.some.inj hb15
      refine TL.yld rfl rfl (yld_pick_f rfl rfl hg16 rfl) ?_
      exact TL.nil fun a h => ⟨h.weaken ⟨rfl, rfl, trivial⟩, Ext.refl _⟩
  intro w23 hx24
  have he25 : Ext w w23 := Ext.trans he12 hx24
  have hb4 := Box.ext hb4 hx24
  have hz26 := (hx24).size
  refine TL.yld rfl rfl (yld_move rfl rfl) ?_
  obtain ⟨c27, hb28, hF⟩ := bsome hF
  refine TL.cut 7 [(1, .pointer (some ⟨b1, 0, none⟩)), (21, .bool c27)] (fun w' => Ext w23 w') ?_ ?_
  · rcases Bool.eq_false_or_eq_true c14 with hg29 | hg29
    ·
      rw [hg29] at hb28; simp only [cond_true, cond_false] at hb28
      replace hF := hb28
      refine TL.gy (j := 11) (t := 14) rfl rfl rfl hg29 rfl (yld_fieldAddr rfl fo_45_4 rfl) ?_
      refine TL.gy (j := 11) (t := 14) rfl rfl rfl hg29 rfl (yld_load1 4 rfl ag_2 rfl (Box.cells hb4) rfl rfl) ?_
      refine TL.gy (j := 11) (t := 14) rfl rfl rfl hg29 rfl (yld_fieldAddr rfl fo_45_2 rfl) ?_
      refine TL.gy (j := 11) (t := 14) rfl rfl rfl hg29 rfl (yld_load1 2 rfl ag_2 rfl (Box.cells hb4) rfl rfl) ?_
      refine TL.gy (j := 11) (t := 14) rfl rfl rfl hg29 rfl (yld_sub rfl rfl rfl) ?_
      obtain ⟨r30, hr31, hF⟩ := bsome hF
      refine TL.ge (j := 11) (t := 14) rfl rfl rfl hg29 rfl (eff_call rfl gf_47 rfl (W_spec_l01In hr31)) ?_
      rintro _ w32 ⟨rfl, hx33⟩
      have he34 : Ext w w32 := Ext.trans he25 hx33
      have hb4 := Box.ext hb4 hx33
      have hz35 := (hx33).size
      obtain rfl := Option.some.inj hF
      refine TL.yld rfl rfl (yld_pick_t rfl rfl hg29 rfl) ?_
      exact TL.nil fun a h => ⟨h.weaken ⟨rfl, rfl, trivial⟩, hx33⟩
    ·
      rw [hg29] at hb28; simp only [cond_true, cond_false] at hb28
      refine TL.gnu (j := 11) (t := 14) rfl rfl rfl hg29 rfl ?_
      refine TL.gnu (j := 11) (t := 14) rfl rfl rfl hg29 rfl ?_
      refine TL.gnu (j := 11) (t := 14) rfl rfl rfl hg29 rfl ?_
      refine TL.gnu (j := 11) (t := 14) rfl rfl rfl hg29 rfl ?_
      refine TL.gnu (j := 11) (t := 14) rfl rfl rfl hg29 rfl ?_
      refine TL.gnu (j := 11) (t := 14) rfl rfl rfl hg29 rfl ?_
      obtain rfl := Option.some.inj hb28
      refine TL.yld rfl rfl (yld_pick_f rfl rfl hg29 rfl) ?_
      exact TL.nil fun a h => ⟨h.weaken ⟨rfl, rfl, trivial⟩, Ext.refl _⟩
  intro w36 hx37
  have he38 : Ext w w36 := Ext.trans he25 hx37
  have hb4 := Box.ext hb4 hx37
  have hz39 := (hx37).size
  refine TL.yld rfl rfl (yld_move rfl rfl) ?_
  refine TL.cut 6 [(1, .pointer (some ⟨b1, 0, none⟩)), (28, .bool ((c27 && ((a0_c.RiseAt != a0_c.FallAt)))))] (fun w' => Ext w36 w') ?_ ?_
  · rcases Bool.eq_false_or_eq_true c27 with hg40 | hg40
    ·
      refine TL.gy (j := 19) (t := 22) rfl rfl rfl hg40 rfl (yld_fieldAddr rfl fo_45_3 rfl) ?_
      refine TL.gy (j := 19) (t := 22) rfl rfl rfl hg40 rfl (yld_load1 3 rfl ag_2 rfl (Box.cells hb4) rfl rfl) ?_
      refine TL.gy (j := 19) (t := 22) rfl rfl rfl hg40 rfl (yld_fieldAddr rfl fo_45_4 rfl) ?_
      refine TL.gy (j := 19) (t := 22) rfl rfl rfl hg40 rfl (yld_load1 4 rfl ag_2 rfl (Box.cells hb4) rfl rfl) ?_
      refine TL.gy (j := 19) (t := 22) rfl rfl rfl hg40 rfl (yld_neq rfl rfl rfl) ?_
      refine TL.yld rfl rfl (yld_and_t rfl rfl hg40 rfl) ?_
      exact TL.nil fun a h => ⟨h.weaken ⟨rfl, rfl, trivial⟩, Ext.refl _⟩
    ·
      refine TL.gnu (j := 19) (t := 22) rfl rfl rfl hg40 rfl ?_
      refine TL.gnu (j := 19) (t := 22) rfl rfl rfl hg40 rfl ?_
      refine TL.gnu (j := 19) (t := 22) rfl rfl rfl hg40 rfl ?_
      refine TL.gnu (j := 19) (t := 22) rfl rfl rfl hg40 rfl ?_
      refine TL.gnu (j := 19) (t := 22) rfl rfl rfl hg40 rfl ?_
      refine TL.yld rfl rfl (yld_and_f (b2 := (a0_c.RiseAt != a0_c.FallAt)) rfl rfl hg40 rfl) ?_
      exact TL.nil fun a h => ⟨h.weaken ⟨rfl, rfl, trivial⟩, Ext.refl _⟩
  intro w41 hx42
  have he43 : Ext w w41 := Ext.trans he38 hx42
  have hb4 := Box.ext hb4 hx42
  have hz44 := (hx42).size
  refine TL.yld rfl rfl (yld_move rfl rfl) ?_
  refine TL.cut 4 [(1, .pointer (some ⟨b1, 0, none⟩)), (33, .bool ((((c27 && ((a0_c.RiseAt != a0_c.FallAt)))) && ((a0_c.Divide == 1)))))] (fun w' => Ext w41 w') ?_ ?_
  · rcases Bool.eq_false_or_eq_true ((c27 && ((a0_c.RiseAt != a0_c.FallAt)))) with hg45 | hg45
    ·
      refine TL.gy (j := 26) (t := 29) rfl rfl rfl hg45 rfl (yld_fieldAddr rfl fo_45_6 rfl) ?_
      refine TL.gy (j := 26) (t := 29) rfl rfl rfl hg45 rfl (yld_load1 6 rfl ag_2 rfl (Box.cells hb4) rfl rfl) ?_
      refine TL.gy (j := 26) (t := 29) rfl rfl rfl hg45 rfl (yld_eql rfl rfl rfl) ?_
      refine TL.yld rfl rfl (yld_and_t rfl rfl hg45 rfl) ?_
      exact TL.nil fun a h => ⟨h.weaken ⟨rfl, rfl, trivial⟩, Ext.refl _⟩
    ·
      refine TL.gnu (j := 26) (t := 29) rfl rfl rfl hg45 rfl ?_
      refine TL.gnu (j := 26) (t := 29) rfl rfl rfl hg45 rfl ?_
      refine TL.gnu (j := 26) (t := 29) rfl rfl rfl hg45 rfl ?_
      refine TL.yld rfl rfl (yld_and_f (b2 := (a0_c.Divide == 1)) rfl rfl hg45 rfl) ?_
      exact TL.nil fun a h => ⟨h.weaken ⟨rfl, rfl, trivial⟩, Ext.refl _⟩
  intro w46 hx47
  have he48 : Ext w w46 := Ext.trans he43 hx47
  have hb4 := Box.ext hb4 hx47
  have hz49 := (hx47).size
  refine TL.yld rfl rfl (yld_move rfl rfl) ?_
  refine TL.cut 4 [(38, .bool ((((((c27 && ((a0_c.RiseAt != a0_c.FallAt)))) && ((a0_c.Divide == 1)))) && (!a0_c.Invert))))] (fun w' => Ext w46 w') ?_ ?_
  · rcases Bool.eq_false_or_eq_true ((((c27 && ((a0_c.RiseAt != a0_c.FallAt)))) && ((a0_c.Divide == 1)))) with hg50 | hg50
    ·
      refine TL.gy (j := 31) (t := 34) rfl rfl rfl hg50 rfl (yld_fieldAddr rfl fo_45_7 rfl) ?_
      refine TL.gy (j := 31) (t := 34) rfl rfl rfl hg50 rfl (yld_load1 7 rfl ag_4 rfl (Box.cells hb4) rfl rfl) ?_
      refine TL.gy (j := 31) (t := 34) rfl rfl rfl hg50 rfl (yld_not rfl rfl) ?_
      refine TL.yld rfl rfl (yld_and_t rfl rfl hg50 rfl) ?_
      exact TL.nil fun a h => ⟨h.weaken ⟨rfl, trivial⟩, Ext.refl _⟩
    ·
      refine TL.gnu (j := 31) (t := 34) rfl rfl rfl hg50 rfl ?_
      refine TL.gnu (j := 31) (t := 34) rfl rfl rfl hg50 rfl ?_
      refine TL.gnu (j := 31) (t := 34) rfl rfl rfl hg50 rfl ?_
      refine TL.yld rfl rfl (yld_and_f (b2 := (!a0_c.Invert)) rfl rfl hg50 rfl) ?_
      exact TL.nil fun a h => ⟨h.weaken ⟨rfl, trivial⟩, Ext.refl _⟩
  intro w51 hx52
  have he53 : Ext w w51 := Ext.trans he48 hx52
  have hb4 := Box.ext hb4 hx52
  have hz54 := (hx52).size
  refine TL.yld rfl rfl (yld_assign rfl rfl) ?_
  refine TL.done ?_
  refine NX.seq ?_
  refine WC.ret' ?_
  obtain rfl := Option.some.inj hF
  exact NX.end (rs := [.tmp 2]) (vs := [.bool ((((((c27 && ((a0_c.RiseAt != a0_c.FallAt)))) && ((a0_c.Divide == 1)))) && (!a0_c.Invert)))]) rfl ⟨rfl, trivial⟩ ⟨_, rfl, rfl, he53⟩

-- loop.example/g00861/spec.IsClocks
def F_spec_IsClocks_L2 (a0_list : List S_Clock) (i5 : Int) (x12 : S_Clock) (k2 : Int → Option Bool) : Nat → Int → Option Bool
  | 0 => fun _ => none
  | m + 1 => fun i42 => (bif decide (i42 < i5) then (Option.bind (getI a0_list i42) fun x45 => (bif (x45.Name.toList == x12.Name.toList) then (some false) else (F_spec_IsClocks_L2 a0_list i5 x12 k2 m (IntKind.wrap IntKind.i64 (i42 + 1))))) else (k2 i42))
theorem F_spec_IsClocks_L2_z (a0_list : List S_Clock) (i5 : Int) (x12 : S_Clock) (k2 : Int → Option Bool) (i42 : Int) : F_spec_IsClocks_L2 a0_list i5 x12 k2 0 i42 = none := rfl
theorem F_spec_IsClocks_L2_s (m : Nat) (a0_list : List S_Clock) (i5 : Int) (x12 : S_Clock) (k2 : Int → Option Bool) (i42 : Int) : F_spec_IsClocks_L2 a0_list i5 x12 k2 (m + 1) i42 = (bif decide (i42 < i5) then (Option.bind (getI a0_list i42) fun x45 => (bif (x45.Name.toList == x12.Name.toList) then (some false) else (F_spec_IsClocks_L2 a0_list i5 x12 k2 m (IntKind.wrap IntKind.i64 (i42 + 1))))) else (k2 i42)) := rfl

def F_spec_IsClocks_L1 (n : Nat) (a0_list : List S_Clock) (k0 : Int → Option Bool) : Nat → Int → Option Bool
  | 0 => fun _ => none
  | m + 1 => fun i5 => (bif ((decide (i5 < (a0_list.length : Int))) && (decide ((a0_list.length : Int) ≤ 6))) then (Option.bind (getI a0_list i5) fun x12 => (Option.bind (F_spec_l14Plain n x12) fun r32 => (bif (!r32) then (some false) else (F_spec_IsClocks_L2 a0_list i5 x12 (fun i42 => (bif (x12.Source == (-1)) then (Option.bind (F_spec_l14Primary n x12) fun r45 => (bif (!r45) then (some false) else (F_spec_IsClocks_L1 n a0_list k0 m (IntKind.wrap IntKind.i64 (i5 + 1))))) else (Option.bind (F_spec_l01In n x12.Source 0 (IntKind.wrap IntKind.i64 (i5 - 1))) fun r54 => (Option.bind (bif (!r54) then (some true) else (Option.bind (F_spec_l01In n x12.Divide 1 8) fun r60 => (some (!r60)))) fun c60 => (Option.bind (bif (((((c60 || ((x12.Period != 0)))) || ((x12.RiseAt != 0)))) || ((x12.FallAt != 0))) then (some true) else (Option.bind (F_spec_l14Of n a0_list i5) fun r88 => (some (decide (r88.period_ > 100000))))) fun c88 => (bif c88 then (some false) else (F_spec_IsClocks_L1 n a0_list k0 m (IntKind.wrap IntKind.i64 (i5 + 1))))))))) n 0)))) else (k0 i5))
theorem F_spec_IsClocks_L1_z (n : Nat) (a0_list : List S_Clock) (k0 : Int → Option Bool) (i5 : Int) : F_spec_IsClocks_L1 n a0_list k0 0 i5 = none := rfl
theorem F_spec_IsClocks_L1_s (m : Nat) (n : Nat) (a0_list : List S_Clock) (k0 : Int → Option Bool) (i5 : Int) : F_spec_IsClocks_L1 n a0_list k0 (m + 1) i5 = (bif ((decide (i5 < (a0_list.length : Int))) && (decide ((a0_list.length : Int) ≤ 6))) then (Option.bind (getI a0_list i5) fun x12 => (Option.bind (F_spec_l14Plain n x12) fun r32 => (bif (!r32) then (some false) else (F_spec_IsClocks_L2 a0_list i5 x12 (fun i42 => (bif (x12.Source == (-1)) then (Option.bind (F_spec_l14Primary n x12) fun r45 => (bif (!r45) then (some false) else (F_spec_IsClocks_L1 n a0_list k0 m (IntKind.wrap IntKind.i64 (i5 + 1))))) else (Option.bind (F_spec_l01In n x12.Source 0 (IntKind.wrap IntKind.i64 (i5 - 1))) fun r54 => (Option.bind (bif (!r54) then (some true) else (Option.bind (F_spec_l01In n x12.Divide 1 8) fun r60 => (some (!r60)))) fun c60 => (Option.bind (bif (((((c60 || ((x12.Period != 0)))) || ((x12.RiseAt != 0)))) || ((x12.FallAt != 0))) then (some true) else (Option.bind (F_spec_l14Of n a0_list i5) fun r88 => (some (decide (r88.period_ > 100000))))) fun c88 => (bif c88 then (some false) else (F_spec_IsClocks_L1 n a0_list k0 m (IntKind.wrap IntKind.i64 (i5 + 1))))))))) n 0)))) else (k0 i5)) := rfl

def F_spec_IsClocks (n : Nat) (a0_list : List S_Clock) : Option Bool := (F_spec_IsClocks_L1 n a0_list (fun i5 => (some (decide ((a0_list.length : Int) ≤ 6)))) n 0)
set_option maxHeartbeats 40000000 in
theorem W_spec_IsClocks {n : Nat} {a0_list : List S_Clock} {r : Bool} {w : World} {v1 : Value} (hF : F_spec_IsClocks n a0_list = some r) (ha2 : slRep C_Clock w (Iv 0 w.heap.size) a0_list v1) :
    Calls Tryd.prog 16 [v1].toArray w (Ret fun u w2 => u = .bool r ∧ Ext w w2) := by
  refine calls_of Tryd.func16 rfl Tryd.ntmps16 ?_
  have he0 : Ext w w := Ext.refl w
  unfold F_spec_IsClocks at hF
  refine WC.seq ?_
  refine WC.region ?_
  refine TL.yld rfl rfl (yld_assign rfl rfl) ?_
  refine TL.done ?_
  refine NX.seq ?_
  refine WC.seq ?_
  refine WC.seq ?_
  refine WC.region ?_
  refine TL.yld rfl rfl (yld_assign rfl rfl) ?_
  refine TL.done ?_
  refine NX.seq ?_
  refine WC.block ?_
  refine WC.loop (fun m6 a wl => ∃ (i5 : Int), Kn 80 [(0, v1), (3, .int .i64 i5)] a ∧ Ext w wl ∧ w.heap.size ≤ wl.heap.size ∧ F_spec_IsClocks_L1 n a0_list (fun i5 => (some (decide ((a0_list.length : Int) ≤ 6)))) m6 i5 = some r) n ?_ ?_
  · intro a hK; exact ⟨0, hK.weaken ⟨rfl, rfl, trivial⟩, he0, Nat.le_refl _, hF⟩
  · rintro m6 a w3 ⟨i5, hK, he4, hz7, hF⟩
    revert hK; revert a; refine (?_ : WC _ _ _ _ _ _)
    cases m6 with
    | zero => rw [F_spec_IsClocks_L1_z] at hF; cases hF
    | succ m6 =>
      rw [F_spec_IsClocks_L1_s] at hF
      refine WC.seq ?_
      refine WC.seq ?_
      refine WC.region ?_
      refine TL.yld rfl rfl (yld_move rfl rfl) ?_
      refine TL.yld rfl rfl (yld_move rfl rfl) ?_
      refine TL.yld rfl rfl (ye_len (c := C_Clock) rfl Tryd.underlying25 rfl (slRep.old ha2 he4 (Nat.le_refl _))) ?_
      refine TL.yld rfl rfl (yld_lss rfl rfl rfl) ?_
      refine TL.yld rfl rfl (yld_move rfl rfl) ?_
      refine TL.cut 4 [(0, v1), (3, .int .i64 i5), (14, .bool (((decide (i5 < (a0_list.length : Int))) && (decide ((a0_list.length : Int) ≤ 6)))))] (fun w' => Ext w3 w') ?_ ?_
      · rcases Bool.eq_false_or_eq_true (decide (i5 < (a0_list.length : Int))) with hg8 | hg8
        ·
          refine TL.gy (j := 4) (t := 10) rfl rfl rfl hg8 rfl (yld_move rfl rfl) ?_
          refine TL.gy (j := 4) (t := 10) rfl rfl rfl hg8 rfl (ye_len (c := C_Clock) rfl Tryd.underlying25 rfl (slRep.old ha2 he4 (Nat.le_refl _))) ?_
          refine TL.gy (j := 4) (t := 10) rfl rfl rfl hg8 rfl (yld_leq rfl rfl rfl) ?_
          refine TL.yld rfl rfl (yld_and_t rfl rfl hg8 rfl) ?_
          exact TL.nil fun a h => ⟨h.weaken ⟨rfl, rfl, rfl, trivial⟩, Ext.refl _⟩
        ·
          refine TL.gnu (j := 4) (t := 10) rfl rfl rfl hg8 rfl ?_
          refine TL.gnu (j := 4) (t := 10) rfl rfl rfl hg8 rfl ?_
          refine TL.gnu (j := 4) (t := 10) rfl rfl rfl hg8 rfl ?_
          refine TL.yld rfl rfl (yld_and_f (b2 := decide ((a0_list.length : Int) ≤ 6)) rfl rfl hg8 rfl) ?_
          exact TL.nil fun a h => ⟨h.weaken ⟨rfl, rfl, rfl, trivial⟩, Ext.refl _⟩
      intro w9 hx10
      have he11 : Ext w w9 := Ext.trans he4 hx10
      have hz12 := (hx10).size
      refine TL.done ?_
      refine NX.seq ?_
      refine WC.cond rfl ?_ ?_
      · intro hc13
        replace hF := bif_t hc13 hF
        refine WC.skip' ?_
        refine NX.seq ?_
        refine WC.seq ?_
        refine WC.block ?_
        refine WC.seq ?_
        refine WC.region ?_
        refine TL.yld rfl rfl (yld_move rfl rfl) ?_
        refine TL.yld rfl rfl (yld_move rfl rfl) ?_
        obtain ⟨x14, hy15, hF⟩ := bsome hF
        refine TL.ye rfl rfl (ye_index (c := C_Clock) rfl Tryd.underlying25 cn_45 rfl rfl (slRep.old ha2 he11 (Nat.le_refl _)) hy15) ?_
        rintro _ ⟨b16, o17, us18, rfl, hib21, hr19, hcl20⟩
        have hib21 : 0 ≤ b16 ∧ b16 < w.heap.size := ⟨hib21.1, by have := hib21.2; omega⟩
        obtain rfl := C_Clock_open hr19
        refine TL.yld rfl rfl (yld_loadN (us := [.string x14.Name, .int .i64 x14.Place, .int .i64 x14.Period, .int .i64 x14.RiseAt, .int .i64 x14.FallAt, .int .i64 x14.Source, .int .i64 x14.Divide, .bool x14.Invert, .int .i64 x14.EarlyLatency, .int .i64 x14.LateLatency, .int .i64 x14.Uncertainty]) rfl ag_45 rfl hcl20 cn_45) ?_
        refine TL.eff rfl rfl (eff_alloc rfl zn_45) ?_
        rintro _ w23 ⟨b22, rfl, hn24⟩
        obtain ⟨hn24e, hn24s, hn24x, hb25⟩ := hn24
        have hb25 : Box w23 b22 [.string ByteArray.empty, .int .i64 0, .int .i64 0, .int .i64 0, .int .i64 0, .int .i64 0, .int .i64 0, .bool false, .int .i64 0, .int .i64 0, .int .i64 0] 45 := hb25
        have he27 : Ext w w23 := Ext.trans he11 hn24x
        have hz28 := (hn24x).size
        have hlo26 : w.heap.size ≤ b22 := by rw [hn24e]; exact (he11).size
        refine TL.eff rfl rfl (eff_store rfl rfl rfl hb25 cn_45 rfl rfl) ?_
        rintro _ w29 ⟨hu30, hb31⟩
        have he32 : Ext w w29 := Below.trans he27 (Upd.below hu30 (by omega))
        have hz33 := (hu30).size
        have hb25 : Box w29 b22 [.string x14.Name, .int .i64 x14.Place, .int .i64 x14.Period, .int .i64 x14.RiseAt, .int .i64 x14.FallAt, .int .i64 x14.Source, .int .i64 x14.Divide, .bool x14.Invert, .int .i64 x14.EarlyLatency, .int .i64 x14.LateLatency, .int .i64 x14.Uncertainty] 45 := hb31
        refine TL.done ?_
        refine NX.seq ?_
        refine WC.seq ?_
        refine WC.seq ?_
        refine WC.region ?_
        refine TL.yld rfl rfl (yld_loadN (us := [.string x14.Name, .int .i64 x14.Place, .int .i64 x14.Period, .int .i64 x14.RiseAt, .int .i64 x14.FallAt, .int .i64 x14.Source, .int .i64 x14.Divide, .bool x14.Invert, .int .i64 x14.EarlyLatency, .int .i64 x14.LateLatency, .int .i64 x14.Uncertainty]) rfl ag_45 rfl (Box.cells hb25) cn_45) ?_
        obtain ⟨r34, hr35, hF⟩ := bsome hF
        refine TL.eff rfl rfl (eff_call rfl gf_45 rfl (W_spec_l14Plain hr35)) ?_
        rintro _ w36 ⟨rfl, hx37⟩
        have he38 : Ext w w36 := Ext.trans he32 hx37
        have hb25 := Box.ext hb25 hx37
        have hz39 := (hx37).size
        refine TL.yld rfl rfl (yld_not rfl rfl) ?_
        refine TL.done ?_
        refine NX.seq ?_
        refine WC.cond rfl ?_ ?_
        · intro hc40
          replace hF := bif_t hc40 hF
          refine WC.seq ?_
          refine WC.region ?_
          refine TL.yld rfl rfl (yld_assign rfl rfl) ?_
          refine TL.done ?_
          refine NX.seq ?_
          refine WC.ret' ?_
          refine NX.then_r ?_
          refine NX.blk_r ?_
          refine NX.then_r ?_
          refine NX.then_r ?_
          refine NX.blk_r ?_
          refine NX.then_r ?_
          obtain rfl := Option.some.inj hF
          exact NX.end (rs := [.tmp 2]) (vs := [.bool false]) rfl ⟨rfl, trivial⟩ ⟨_, rfl, rfl, he38⟩
        · intro hc41
          replace hF := bif_f hc41 hF
          refine WC.skip' ?_
          refine NX.seq ?_
          refine WC.seq ?_
          refine WC.seq ?_
          refine WC.region ?_
          refine TL.yld rfl rfl (yld_assign rfl rfl) ?_
          refine TL.done ?_
          refine NX.seq ?_
          refine WC.block ?_
          refine WC.loop (fun m46 a wl => ∃ (i44 : Int), Kn 80 [(0, v1), (3, .int .i64 i5), (4, .pointer (some ⟨b22, 0, none⟩)), (5, .int .i64 i44)] a ∧ Ext w wl ∧ w36.heap.size ≤ wl.heap.size ∧ Box wl b22 [.string x14.Name, .int .i64 x14.Place, .int .i64 x14.Period, .int .i64 x14.RiseAt, .int .i64 x14.FallAt, .int .i64 x14.Source, .int .i64 x14.Divide, .bool x14.Invert, .int .i64 x14.EarlyLatency, .int .i64 x14.LateLatency, .int .i64 x14.Uncertainty] 45 ∧ F_spec_IsClocks_L2 a0_list i5 x14 (fun i44 => (bif (x14.Source == (-1)) then (Option.bind (F_spec_l14Primary n x14) fun r47 => (bif (!r47) then (some false) else (F_spec_IsClocks_L1 n a0_list (fun i5 => (some (decide ((a0_list.length : Int) ≤ 6)))) m6 (IntKind.wrap IntKind.i64 (i5 + 1))))) else (Option.bind (F_spec_l01In n x14.Source 0 (IntKind.wrap IntKind.i64 (i5 - 1))) fun r56 => (Option.bind (bif (!r56) then (some true) else (Option.bind (F_spec_l01In n x14.Divide 1 8) fun r62 => (some (!r62)))) fun c62 => (Option.bind (bif (((((c62 || ((x14.Period != 0)))) || ((x14.RiseAt != 0)))) || ((x14.FallAt != 0))) then (some true) else (Option.bind (F_spec_l14Of n a0_list i5) fun r90 => (some (decide (r90.period_ > 100000))))) fun c90 => (bif c90 then (some false) else (F_spec_IsClocks_L1 n a0_list (fun i5 => (some (decide ((a0_list.length : Int) ≤ 6)))) m6 (IntKind.wrap IntKind.i64 (i5 + 1))))))))) m46 i44 = some r) n ?_ ?_
          · intro a hK; exact ⟨0, hK.weaken ⟨rfl, rfl, rfl, rfl, trivial⟩, he38, Nat.le_refl _, hb25, hF⟩
          · rintro m46 a w42 ⟨i44, hK, he43, hz47, hb45, hF⟩
            revert hK; revert a; refine (?_ : WC _ _ _ _ _ _)
            cases m46 with
            | zero => rw [F_spec_IsClocks_L2_z] at hF; cases hF
            | succ m46 =>
              rw [F_spec_IsClocks_L2_s] at hF
              refine WC.seq ?_
              refine WC.seq ?_
              refine WC.region ?_
              refine TL.yld rfl rfl (yld_move rfl rfl) ?_
              refine TL.yld rfl rfl (yld_move rfl rfl) ?_
              refine TL.yld rfl rfl (yld_lss rfl rfl rfl) ?_
              refine TL.done ?_
              refine NX.seq ?_
              refine WC.cond rfl ?_ ?_
              · intro hc48
                replace hF := bif_t hc48 hF
                refine WC.skip' ?_
                refine NX.seq ?_
                refine WC.seq ?_
                refine WC.block ?_
                refine WC.seq ?_
                refine WC.quiet Tryd.hm (by kernel_rfl) ?_
                refine QL.yld rfl rfl (Yld.qui (yld_move rfl rfl)) ?_
                refine QL.yld rfl rfl (Yld.qui (yld_move rfl rfl)) ?_
                obtain ⟨x49, hy50, hF⟩ := bsome hF
                refine QL.ye rfl rfl (ye_index (c := C_Clock) rfl Tryd.underlying25 cn_45 rfl rfl (slRep.old ha2 he43 (Nat.le_refl _)) hy50) ?_
                rintro _ ⟨b51, o52, us53, rfl, hib56, hr54, hcl55⟩
                have hib56 : 0 ≤ b51 ∧ b51 < w.heap.size := ⟨hib56.1, by have := hib56.2; omega⟩
                obtain rfl := C_Clock_open hr54
                refine QL.yld rfl rfl (Yld.qui (yld_fieldAddr rfl fo_45_0 rfl)) ?_
                refine QL.yld rfl rfl (Yld.qui (yld_load1 0 rfl ag_9 rfl hcl55 rfl rfl)) ?_
                refine QL.yld rfl rfl (Yld.qui (yld_fieldAddr rfl fo_45_0 rfl)) ?_
                refine QL.yld rfl rfl (Yld.qui (yld_load1 0 rfl ag_9 rfl (Box.cells hb45) rfl rfl)) ?_
                refine QL.yld rfl rfl (Yld.qui (yld_eqs rfl rfl rfl)) ?_
                refine QL.done fun w57 hx58 => ?_
                have he59 : Ext w w57 := Ext.trans he43 hx58
                have hb45 := Box.ext hb45 hx58
                have hz60 := (hx58).size
                refine NX.seq ?_
                refine WC.cond rfl ?_ ?_
                · intro hc61
                  replace hF := bif_t hc61 hF
                  refine WC.seq ?_
                  refine WC.region ?_
                  refine TL.yld rfl rfl (yld_assign rfl rfl) ?_
                  refine TL.done ?_
                  refine NX.seq ?_
                  refine WC.ret' ?_
                  refine NX.blk_r ?_
                  refine NX.then_r ?_
                  refine NX.then_r ?_
                  refine NX.blk_r ?_
                  refine NX.then_r ?_
                  refine NX.blk_r ?_
                  refine NX.then_r ?_
                  refine NX.then_r ?_
                  refine NX.blk_r ?_
                  refine NX.then_r ?_
                  obtain rfl := Option.some.inj hF
                  exact NX.end (rs := [.tmp 2]) (vs := [.bool false]) rfl ⟨rfl, trivial⟩ ⟨_, rfl, rfl, he59⟩
                · intro hc62
                  replace hF := bif_f hc62 hF
                  refine WC.skip' ?_
                  refine NX.blk_n ?_
                  refine NX.seq ?_
                  refine WC.region ?_
                  refine TL.yld rfl rfl (yld_move rfl rfl) ?_
                  refine TL.yld rfl rfl (yld_add rfl rfl rfl) ?_
                  refine TL.yld rfl rfl (yld_assign rfl rfl) ?_
                  refine TL.done ?_
                  refine NX.then_n ?_
                  intro a hK; exact ⟨m46, Nat.lt_succ_self m46, (IntKind.wrap IntKind.i64 (i44 + 1)), hK.weaken ⟨rfl, rfl, rfl, rfl, trivial⟩, he59, (by omega), hb45, hF⟩
              · intro hc63
                replace hF := bif_f hc63 hF
                refine WC.exit' ?_
                refine NX.then_e ?_
                refine NX.then_e ?_
                refine NX.blk_hit ?_
                refine NX.seq ?_
                refine WC.seq ?_
                refine WC.seq ?_
                refine WC.region ?_
                refine TL.yld rfl rfl (yld_fieldAddr rfl fo_45_5 rfl) ?_
                refine TL.yld rfl rfl (yld_load1 5 rfl ag_2 rfl (Box.cells hb45) rfl rfl) ?_
                refine TL.yld rfl rfl (yld_eql rfl rfl rfl) ?_
                refine TL.done ?_
                refine NX.seq ?_
                refine WC.cond rfl ?_ ?_
                · intro hc64
                  replace hF := bif_t hc64 hF
                  refine WC.seq ?_
                  refine WC.seq ?_
                  refine WC.region ?_
                  refine TL.yld rfl rfl (yld_loadN (us := [.string x14.Name, .int .i64 x14.Place, .int .i64 x14.Period, .int .i64 x14.RiseAt, .int .i64 x14.FallAt, .int .i64 x14.Source, .int .i64 x14.Divide, .bool x14.Invert, .int .i64 x14.EarlyLatency, .int .i64 x14.LateLatency, .int .i64 x14.Uncertainty]) rfl ag_45 rfl (Box.cells hb45) cn_45) ?_
                  obtain ⟨r65, hr66, hF⟩ := bsome hF
                  refine TL.eff rfl rfl (eff_call rfl gf_46 rfl (W_spec_l14Primary hr66)) ?_
                  rintro _ w67 ⟨rfl, hx68⟩
                  have he69 : Ext w w67 := Ext.trans he43 hx68
                  have hb45 := Box.ext hb45 hx68
                  have hz70 := (hx68).size
                  refine TL.yld rfl rfl (yld_not rfl rfl) ?_
                  refine TL.done ?_
                  refine NX.seq ?_
                  refine WC.cond rfl ?_ ?_
                  · intro hc71
                    replace hF := bif_t hc71 hF
                    refine WC.seq ?_
                    refine WC.region ?_
                    refine TL.yld rfl rfl (yld_assign rfl rfl) ?_
                    refine TL.done ?_
                    refine NX.seq ?_
                    refine WC.ret' ?_
                    refine NX.then_r ?_
                    refine NX.then_r ?_
                    refine NX.blk_r ?_
                    refine NX.then_r ?_
                    refine NX.then_r ?_
                    refine NX.blk_r ?_
                    refine NX.then_r ?_
                    obtain rfl := Option.some.inj hF
                    exact NX.end (rs := [.tmp 2]) (vs := [.bool false]) rfl ⟨rfl, trivial⟩ ⟨_, rfl, rfl, he69⟩
                  · intro hc72
                    replace hF := bif_f hc72 hF
                    refine WC.skip' ?_
                    refine NX.seq ?_
                    refine WC.exit' ?_
                    refine NX.then_e ?_
                    refine NX.blk_hit ?_
                    refine NX.seq ?_
                    refine WC.region ?_
                    refine TL.yld rfl rfl (yld_move rfl rfl) ?_
                    refine TL.yld rfl rfl (yld_add rfl rfl rfl) ?_
                    refine TL.yld rfl rfl (yld_assign rfl rfl) ?_
                    refine TL.done ?_
                    refine NX.then_n ?_
                    intro a hK; exact ⟨m6, Nat.lt_succ_self m6, (IntKind.wrap IntKind.i64 (i5 + 1)), hK.weaken ⟨rfl, rfl, trivial⟩, he69, (by omega), hF⟩
                · intro hc73
                  replace hF := bif_f hc73 hF
                  refine WC.skip' ?_
                  refine NX.seq ?_
                  refine WC.seq ?_
                  refine WC.region ?_
                  refine TL.yld rfl rfl (yld_fieldAddr rfl fo_45_5 rfl) ?_
                  refine TL.yld rfl rfl (yld_load1 5 rfl ag_2 rfl (Box.cells hb45) rfl rfl) ?_
                  refine TL.yld rfl rfl (yld_move rfl rfl) ?_
                  refine TL.yld rfl rfl (yld_sub rfl rfl rfl) ?_
                  obtain ⟨r74, hr75, hF⟩ := bsome hF
                  refine TL.eff rfl rfl (eff_call rfl gf_47 rfl (W_spec_l01In hr75)) ?_
                  rintro _ w76 ⟨rfl, hx77⟩
                  have he78 : Ext w w76 := Ext.trans he43 hx77
                  have hb45 := Box.ext hb45 hx77
                  have hz79 := (hx77).size
                  refine TL.yld rfl rfl (yld_not rfl rfl) ?_
                  refine TL.yld rfl rfl (yld_move rfl rfl) ?_
                  obtain ⟨c80, hb81, hF⟩ := bsome hF
                  refine TL.cut 5 [(0, v1), (3, .int .i64 i5), (4, .pointer (some ⟨b22, 0, none⟩)), (54, .bool c80)] (fun w' => Ext w76 w') ?_ ?_
                  · rcases Bool.eq_false_or_eq_true (!r74) with hg82 | hg82
                    ·
                      rw [hg82] at hb81; simp only [cond_true, cond_false] at hb81
                      refine TL.gnu (j := 6) (t := 49) rfl rfl rfl hg82 rfl ?_
                      refine TL.gnu (j := 6) (t := 49) rfl rfl rfl hg82 rfl ?_
                      refine TL.gnu (j := 6) (t := 49) rfl rfl rfl hg82 rfl ?_
                      refine TL.gnu (j := 6) (t := 49) rfl rfl rfl hg82 rfl ?_
                      obtain rfl := Option.some.inj hb81
                      refine TL.yld rfl rfl (yld_pick_t rfl rfl hg82 rfl) ?_
                      exact TL.nil fun a h => ⟨h.weaken ⟨rfl, rfl, rfl, rfl, trivial⟩, Ext.refl _⟩
                    ·
                      rw [hg82] at hb81; simp only [cond_true, cond_false] at hb81
                      replace hF := hb81
                      refine TL.gy (j := 6) (t := 49) rfl rfl rfl hg82 rfl (yld_fieldAddr rfl fo_45_6 rfl) ?_
                      refine TL.gy (j := 6) (t := 49) rfl rfl rfl hg82 rfl (yld_load1 6 rfl ag_2 rfl (Box.cells hb45) rfl rfl) ?_
                      obtain ⟨r83, hr84, hF⟩ := bsome hF
                      refine TL.ge (j := 6) (t := 49) rfl rfl rfl hg82 rfl (eff_call rfl gf_47 rfl (W_spec_l01In hr84)) ?_
                      rintro _ w85 ⟨rfl, hx86⟩
                      have he87 : Ext w w85 := Ext.trans he78 hx86
                      have hb45 := Box.ext hb45 hx86
                      have hz88 := (hx86).size
                      refine TL.gy (j := 6) (t := 49) rfl rfl rfl hg82 rfl (yld_not rfl rfl) ?_
                      obtain rfl := Option.some.inj hF
                      refine TL.yld rfl rfl (yld_pick_f rfl rfl hg82 rfl) ?_
                      exact TL.nil fun a h => ⟨h.weaken ⟨rfl, rfl, rfl, rfl, trivial⟩, hx86⟩
                  intro w89 hx90
                  have he91 : Ext w w89 := Ext.trans he78 hx90
                  have hb45 := Box.ext hb45 hx90
                  have hz92 := (hx90).size
                  refine TL.yld rfl rfl (yld_move rfl rfl) ?_
                  refine TL.cut 4 [(0, v1), (3, .int .i64 i5), (4, .pointer (some ⟨b22, 0, none⟩)), (59, .bool ((c80 || ((x14.Period != 0)))))] (fun w' => Ext w89 w') ?_ ?_
                  · rcases Bool.eq_false_or_eq_true c80 with hg93 | hg93
                    ·
                      refine TL.gnu (j := 12) (t := 55) rfl rfl rfl hg93 rfl ?_
                      refine TL.gnu (j := 12) (t := 55) rfl rfl rfl hg93 rfl ?_
                      refine TL.gnu (j := 12) (t := 55) rfl rfl rfl hg93 rfl ?_
                      refine TL.yld rfl rfl (yld_or_t (b2 := (x14.Period != 0)) rfl rfl hg93 rfl) ?_
                      exact TL.nil fun a h => ⟨h.weaken ⟨rfl, rfl, rfl, rfl, trivial⟩, Ext.refl _⟩
                    ·
                      refine TL.gy (j := 12) (t := 55) rfl rfl rfl hg93 rfl (yld_fieldAddr rfl fo_45_2 rfl) ?_
                      refine TL.gy (j := 12) (t := 55) rfl rfl rfl hg93 rfl (yld_load1 2 rfl ag_2 rfl (Box.cells hb45) rfl rfl) ?_
                      refine TL.gy (j := 12) (t := 55) rfl rfl rfl hg93 rfl (yld_neq rfl rfl rfl) ?_
                      refine TL.yld rfl rfl (yld_or_f rfl rfl hg93 rfl) ?_
                      exact TL.nil fun a h => ⟨h.weaken ⟨rfl, rfl, rfl, rfl, trivial⟩, Ext.refl _⟩
                  intro w94 hx95
                  have he96 : Ext w w94 := Ext.trans he91 hx95
                  have hb45 := Box.ext hb45 hx95
                  have hz97 := (hx95).size
                  refine TL.yld rfl rfl (yld_move rfl rfl) ?_
                  refine TL.cut 4 [(0, v1), (3, .int .i64 i5), (4, .pointer (some ⟨b22, 0, none⟩)), (64, .bool ((((c80 || ((x14.Period != 0)))) || ((x14.RiseAt != 0)))))] (fun w' => Ext w94 w') ?_ ?_
                  · rcases Bool.eq_false_or_eq_true ((c80 || ((x14.Period != 0)))) with hg98 | hg98
                    ·
                      refine TL.gnu (j := 17) (t := 60) rfl rfl rfl hg98 rfl ?_
                      refine TL.gnu (j := 17) (t := 60) rfl rfl rfl hg98 rfl ?_
                      refine TL.gnu (j := 17) (t := 60) rfl rfl rfl hg98 rfl ?_
                      refine TL.yld rfl rfl (yld_or_t (b2 := (x14.RiseAt != 0)) rfl rfl hg98 rfl) ?_
                      exact TL.nil fun a h => ⟨h.weaken ⟨rfl, rfl, rfl, rfl, trivial⟩, Ext.refl _⟩
                    ·
                      refine TL.gy (j := 17) (t := 60) rfl rfl rfl hg98 rfl (yld_fieldAddr rfl fo_45_3 rfl) ?_
                      refine TL.gy (j := 17) (t := 60) rfl rfl rfl hg98 rfl (yld_load1 3 rfl ag_2 rfl (Box.cells hb45) rfl rfl) ?_
                      refine TL.gy (j := 17) (t := 60) rfl rfl rfl hg98 rfl (yld_neq rfl rfl rfl) ?_
                      refine TL.yld rfl rfl (yld_or_f rfl rfl hg98 rfl) ?_
                      exact TL.nil fun a h => ⟨h.weaken ⟨rfl, rfl, rfl, rfl, trivial⟩, Ext.refl _⟩
                  intro w99 hx100
                  have he101 : Ext w w99 := Ext.trans he96 hx100
                  have hb45 := Box.ext hb45 hx100
                  have hz102 := (hx100).size
                  refine TL.yld rfl rfl (yld_move rfl rfl) ?_
                  refine TL.cut 4 [(0, v1), (3, .int .i64 i5), (69, .bool ((((((c80 || ((x14.Period != 0)))) || ((x14.RiseAt != 0)))) || ((x14.FallAt != 0)))))] (fun w' => Ext w99 w') ?_ ?_
                  · rcases Bool.eq_false_or_eq_true ((((c80 || ((x14.Period != 0)))) || ((x14.RiseAt != 0)))) with hg103 | hg103
                    ·
                      refine TL.gnu (j := 22) (t := 65) rfl rfl rfl hg103 rfl ?_
                      refine TL.gnu (j := 22) (t := 65) rfl rfl rfl hg103 rfl ?_
                      refine TL.gnu (j := 22) (t := 65) rfl rfl rfl hg103 rfl ?_
                      refine TL.yld rfl rfl (yld_or_t (b2 := (x14.FallAt != 0)) rfl rfl hg103 rfl) ?_
                      exact TL.nil fun a h => ⟨h.weaken ⟨rfl, rfl, rfl, trivial⟩, Ext.refl _⟩
                    ·
                      refine TL.gy (j := 22) (t := 65) rfl rfl rfl hg103 rfl (yld_fieldAddr rfl fo_45_4 rfl) ?_
                      refine TL.gy (j := 22) (t := 65) rfl rfl rfl hg103 rfl (yld_load1 4 rfl ag_2 rfl (Box.cells hb45) rfl rfl) ?_
                      refine TL.gy (j := 22) (t := 65) rfl rfl rfl hg103 rfl (yld_neq rfl rfl rfl) ?_
                      refine TL.yld rfl rfl (yld_or_f rfl rfl hg103 rfl) ?_
                      exact TL.nil fun a h => ⟨h.weaken ⟨rfl, rfl, rfl, trivial⟩, Ext.refl _⟩
                  intro w104 hx105
                  have he106 : Ext w w104 := Ext.trans he101 hx105
                  have hb45 := Box.ext hb45 hx105
                  have hz107 := (hx105).size
                  refine TL.yld rfl rfl (yld_move rfl rfl) ?_
                  obtain ⟨c108, hb109, hF⟩ := bsome hF
                  refine TL.cut 6 [(0, v1), (3, .int .i64 i5), (76, .bool c108)] (fun w' => Ext w104 w') ?_ ?_
                  · rcases Bool.eq_false_or_eq_true ((((((c80 || ((x14.Period != 0)))) || ((x14.RiseAt != 0)))) || ((x14.FallAt != 0)))) with hg110 | hg110
                    ·
                      rw [hg110] at hb109; simp only [cond_true, cond_false] at hb109
                      refine TL.gnu (j := 27) (t := 70) rfl rfl rfl hg110 rfl ?_
                      refine TL.gnu (j := 27) (t := 70) rfl rfl rfl hg110 rfl ?_
                      refine TL.gnu (j := 27) (t := 70) rfl rfl rfl hg110 rfl ?_
                      refine TL.gnu (j := 27) (t := 70) rfl rfl rfl hg110 rfl ?_
                      refine TL.gnu (j := 27) (t := 70) rfl rfl rfl hg110 rfl ?_
                      obtain rfl := Option.some.inj hb109
                      refine TL.yld rfl rfl (yld_pick_t rfl rfl hg110 rfl) ?_
                      exact TL.nil fun a h => ⟨h.weaken ⟨rfl, rfl, rfl, trivial⟩, Ext.refl _⟩
                    ·
                      rw [hg110] at hb109; simp only [cond_true, cond_false] at hb109
                      replace hF := hb109
                      refine TL.gy (j := 27) (t := 70) rfl rfl rfl hg110 rfl (yld_move rfl rfl) ?_
                      refine TL.gy (j := 27) (t := 70) rfl rfl rfl hg110 rfl (yld_move rfl rfl) ?_
                      obtain ⟨r111, hr112, hF⟩ := bsome hF
                      refine TL.ge (j := 27) (t := 70) rfl rfl rfl hg110 rfl (eff_call rfl gf_48 rfl (W_spec_l14Of hr112 ((slRep.old ha2 he106 (Nat.le_refl _)).wide (Nat.le_refl _) (he106).size))) ?_
                      rintro _ w113 ⟨rfl, hx114⟩
                      have he115 : Ext w w113 := Ext.trans he106 hx114
                      have hb45 := Box.ext hb45 hx114
                      have hz116 := (hx114).size
                      refine TL.gy (j := 27) (t := 70) rfl rfl rfl hg110 rfl (yld_field1 rfl ft_60_0 ag_2 rfl rfl) ?_
                      refine TL.gy (j := 27) (t := 70) rfl rfl rfl hg110 rfl (yld_gtr rfl rfl rfl) ?_
                      obtain rfl := Option.some.inj hF
                      refine TL.yld rfl rfl (yld_pick_f rfl rfl hg110 rfl) ?_
                      exact TL.nil fun a h => ⟨h.weaken ⟨rfl, rfl, rfl, trivial⟩, hx114⟩
                  intro w117 hx118
                  have he119 : Ext w w117 := Ext.trans he106 hx118
                  have hb45 := Box.ext hb45 hx118
                  have hz120 := (hx118).size
                  refine TL.done ?_
                  refine NX.seq ?_
                  refine WC.cond rfl ?_ ?_
                  · intro hc121
                    replace hF := bif_t hc121 hF
                    refine WC.seq ?_
                    refine WC.region ?_
                    refine TL.yld rfl rfl (yld_assign rfl rfl) ?_
                    refine TL.done ?_
                    refine NX.seq ?_
                    refine WC.ret' ?_
                    refine NX.blk_r ?_
                    refine NX.then_r ?_
                    refine NX.then_r ?_
                    refine NX.blk_r ?_
                    refine NX.then_r ?_
                    obtain rfl := Option.some.inj hF
                    exact NX.end (rs := [.tmp 2]) (vs := [.bool false]) rfl ⟨rfl, trivial⟩ ⟨_, rfl, rfl, he119⟩
                  · intro hc122
                    replace hF := bif_f hc122 hF
                    refine WC.skip' ?_
                    refine NX.blk_n ?_
                    refine NX.seq ?_
                    refine WC.region ?_
                    refine TL.yld rfl rfl (yld_move rfl rfl) ?_
                    refine TL.yld rfl rfl (yld_add rfl rfl rfl) ?_
                    refine TL.yld rfl rfl (yld_assign rfl rfl) ?_
                    refine TL.done ?_
                    refine NX.then_n ?_
                    intro a hK; exact ⟨m6, Nat.lt_succ_self m6, (IntKind.wrap IntKind.i64 (i5 + 1)), hK.weaken ⟨rfl, rfl, trivial⟩, he119, (by omega), hF⟩
      · intro hc123
        replace hF := bif_f hc123 hF
        refine WC.exit' ?_
        refine NX.then_e ?_
        refine NX.then_e ?_
        refine NX.blk_hit ?_
        refine NX.seq ?_
        refine WC.seq ?_
        refine WC.region ?_
        refine TL.yld rfl rfl (yld_move rfl rfl) ?_
        refine TL.yld rfl rfl (ye_len (c := C_Clock) rfl Tryd.underlying25 rfl (slRep.old ha2 he11 (Nat.le_refl _))) ?_
        refine TL.yld rfl rfl (yld_leq rfl rfl rfl) ?_
        refine TL.yld rfl rfl (yld_assign rfl rfl) ?_
        refine TL.done ?_
        refine NX.seq ?_
        refine WC.ret' ?_
        obtain rfl := Option.some.inj hF
        exact NX.end (rs := [.tmp 2]) (vs := [.bool (decide ((a0_list.length : Int) ≤ 6))]) rfl ⟨rfl, trivial⟩ ⟨_, rfl, rfl, he11⟩

-- loop.example/g00861/spec.l14Code
def F_spec_l14Code (n : Nat) (a0_list : List S_Clock) (a1_k : Int) : Option Int := (Option.bind (F_spec_IsClocks n a0_list) fun r3 => (bif (!r3) then (some 1) else (Option.bind (F_spec_l01In n a1_k 0 (IntKind.wrap IntKind.i64 (((a0_list.length : Int)) - 1))) fun r11 => (bif (!r11) then (some 4) else (some 0)))))
set_option maxHeartbeats 40000000 in
theorem W_spec_l14Code {n : Nat} {a0_list : List S_Clock} {a1_k : Int} {r : Int} {w : World} {v1 : Value} (hF : F_spec_l14Code n a0_list a1_k = some r) (ha2 : slRep C_Clock w (Iv 0 w.heap.size) a0_list v1) :
    Calls Tryd.prog 53 [v1, .int .i64 a1_k].toArray w (Ret fun u w2 => u = .int .i64 r ∧ Ext w w2) := by
  refine calls_of Tryd.func53 rfl Tryd.ntmps53 ?_
  have he0 : Ext w w := Ext.refl w
  unfold F_spec_l14Code at hF
  refine WC.seq ?_
  refine WC.region ?_
  refine TL.yld rfl rfl (yld_assign rfl rfl) ?_
  refine TL.done ?_
  refine NX.seq ?_
  refine WC.seq ?_
  refine WC.seq ?_
  refine WC.region ?_
  refine TL.yld rfl rfl (yld_move rfl rfl) ?_
  obtain ⟨r3, hr4, hF⟩ := bsome hF
  refine TL.eff rfl rfl (eff_call rfl gf_16 rfl (W_spec_IsClocks hr4 ((slRep.old ha2 he0 (Nat.le_refl _)).wide (Nat.le_refl _) (he0).size))) ?_
  rintro _ w5 ⟨rfl, hx6⟩
  have he7 : Ext w w5 := Ext.trans he0 hx6
  have hz8 := (hx6).size
  refine TL.yld rfl rfl (yld_not rfl rfl) ?_
  refine TL.done ?_
  refine NX.seq ?_
  refine WC.cond rfl ?_ ?_
  · intro hc9
    replace hF := bif_t hc9 hF
    refine WC.seq ?_
    refine WC.region ?_
    refine TL.yld rfl rfl (yld_assign rfl rfl) ?_
    refine TL.done ?_
    refine NX.seq ?_
    refine WC.ret' ?_
    refine NX.then_r ?_
    obtain rfl := Option.some.inj hF
    exact NX.end (rs := [.tmp 4]) (vs := [.int .i64 1]) rfl ⟨rfl, trivial⟩ ⟨_, rfl, rfl, he7⟩
  · intro hc10
    replace hF := bif_f hc10 hF
    refine WC.skip' ?_
    refine NX.seq ?_
    refine WC.seq ?_
    refine WC.seq ?_
    refine WC.region ?_
    refine TL.yld rfl rfl (yld_move rfl rfl) ?_
    refine TL.yld rfl rfl (yld_move rfl rfl) ?_
    refine TL.yld rfl rfl (ye_len (c := C_Clock) rfl Tryd.underlying25 rfl (slRep.old ha2 he7 (Nat.le_refl _))) ?_
    refine TL.yld rfl rfl (yld_sub rfl rfl rfl) ?_
    obtain ⟨r11, hr12, hF⟩ := bsome hF
    refine TL.eff rfl rfl (eff_call rfl gf_47 rfl (W_spec_l01In hr12)) ?_
    rintro _ w13 ⟨rfl, hx14⟩
    have he15 : Ext w w13 := Ext.trans he7 hx14
    have hz16 := (hx14).size
    refine TL.yld rfl rfl (yld_not rfl rfl) ?_
    refine TL.done ?_
    refine NX.seq ?_
    refine WC.cond rfl ?_ ?_
    · intro hc17
      replace hF := bif_t hc17 hF
      refine WC.seq ?_
      refine WC.region ?_
      refine TL.yld rfl rfl (yld_assign rfl rfl) ?_
      refine TL.done ?_
      refine NX.seq ?_
      refine WC.ret' ?_
      refine NX.then_r ?_
      obtain rfl := Option.some.inj hF
      exact NX.end (rs := [.tmp 4]) (vs := [.int .i64 4]) rfl ⟨rfl, trivial⟩ ⟨_, rfl, rfl, he15⟩
    · intro hc18
      replace hF := bif_f hc18 hF
      refine WC.skip' ?_
      refine NX.seq ?_
      refine WC.seq ?_
      refine WC.region ?_
      refine TL.yld rfl rfl (yld_assign rfl rfl) ?_
      refine TL.done ?_
      refine NX.seq ?_
      refine WC.ret' ?_
      obtain rfl := Option.some.inj hF
      exact NX.end (rs := [.tmp 4]) (vs := [.int .i64 0]) rfl ⟨rfl, trivial⟩ ⟨_, rfl, rfl, he15⟩

-- loop.example/g00861/spec.WaveOf
def F_spec_WaveOf (n : Nat) (a0_list : List S_Clock) (a1_k : Int) : Option (Int × Int × Int × Int) := (Option.bind (F_spec_l14Code n a0_list a1_k) fun r3 => (bif (r3 != 0) then (some (0, 0, 0, r3)) else (Option.bind (F_spec_l14Of n a0_list a1_k) fun r11 => (some (r11.period_, r11.rise_, r11.fall_, 0)))))
set_option maxHeartbeats 40000000 in
theorem W_spec_WaveOf {n : Nat} {a0_list : List S_Clock} {a1_k : Int} {r : Int × Int × Int × Int} {w : World} {v1 : Value} (hF : F_spec_WaveOf n a0_list a1_k = some r) (ha2 : slRep C_Clock w (Iv 0 w.heap.size) a0_list v1) :
    Calls Tryd.prog 20 [v1, .int .i64 a1_k].toArray w (Ret fun u w2 => u = .tuple #[.int .i64 r.1, .int .i64 r.2.1, .int .i64 r.2.2.1, .int .i64 r.2.2.2] ∧ Ext w w2) := by
  refine calls_of Tryd.func20 rfl Tryd.ntmps20 ?_
  have he0 : Ext w w := Ext.refl w
  unfold F_spec_WaveOf at hF
  refine WC.seq ?_
  refine WC.region ?_
  refine TL.yld rfl rfl (yld_assign rfl rfl) ?_
  refine TL.yld rfl rfl (yld_assign rfl rfl) ?_
  refine TL.yld rfl rfl (yld_assign rfl rfl) ?_
  refine TL.yld rfl rfl (yld_assign rfl rfl) ?_
  refine TL.done ?_
  refine NX.seq ?_
  refine WC.seq ?_
  refine WC.seq ?_
  refine WC.region ?_
  refine TL.yld rfl rfl (yld_move rfl rfl) ?_
  refine TL.yld rfl rfl (yld_move rfl rfl) ?_
  obtain ⟨r3, hr4, hF⟩ := bsome hF
  refine TL.eff rfl rfl (eff_call rfl gf_53 rfl (W_spec_l14Code hr4 ((slRep.old ha2 he0 (Nat.le_refl _)).wide (Nat.le_refl _) (he0).size))) ?_
  rintro _ w5 ⟨rfl, hx6⟩
  have he7 : Ext w w5 := Ext.trans he0 hx6
  have hz8 := (hx6).size
  refine TL.yld rfl rfl (yld_assign rfl rfl) ?_
  refine TL.done ?_
  refine NX.seq ?_
  refine WC.seq ?_
  refine WC.region ?_
  refine TL.yld rfl rfl (yld_move rfl rfl) ?_
  refine TL.yld rfl rfl (yld_neq rfl rfl rfl) ?_
  refine TL.done ?_
  refine NX.seq ?_
  refine WC.cond rfl ?_ ?_
  · intro hc9
    replace hF := bif_t hc9 hF
    refine WC.seq ?_
    refine WC.region ?_
    refine TL.yld rfl rfl (yld_move rfl rfl) ?_
    refine TL.yld rfl rfl (yld_assign rfl rfl) ?_
    refine TL.yld rfl rfl (yld_assign rfl rfl) ?_
    refine TL.yld rfl rfl (yld_assign rfl rfl) ?_
    refine TL.yld rfl rfl (yld_assign rfl rfl) ?_
    refine TL.done ?_
    refine NX.seq ?_
    refine WC.ret' ?_
    refine NX.then_r ?_
    obtain rfl := Option.some.inj hF
    exact NX.end (rs := [.tmp 4, .tmp 5, .tmp 6, .tmp 7]) (vs := [.int .i64 0, .int .i64 0, .int .i64 0, .int .i64 r3]) rfl ⟨rfl, rfl, rfl, rfl, trivial⟩ ⟨_, rfl, rfl, he7⟩
  · intro hc10
    replace hF := bif_f hc10 hF
    refine WC.skip' ?_
    refine NX.seq ?_
    refine WC.seq ?_
    refine WC.region ?_
    refine TL.yld rfl rfl (yld_move rfl rfl) ?_
    refine TL.yld rfl rfl (yld_move rfl rfl) ?_
    obtain ⟨r11, hr12, hF⟩ := bsome hF
    refine TL.eff rfl rfl (eff_call rfl gf_48 rfl (W_spec_l14Of hr12 ((slRep.old ha2 he7 (Nat.le_refl _)).wide (Nat.le_refl _) (he7).size))) ?_
    rintro _ w13 ⟨rfl, hx14⟩
    have he15 : Ext w w13 := Ext.trans he7 hx14
    have hz16 := (hx14).size
    refine TL.eff rfl rfl (eff_alloc rfl zn_60) ?_
    rintro _ w18 ⟨b17, rfl, hn19⟩
    obtain ⟨hn19e, hn19s, hn19x, hb20⟩ := hn19
    have hb20 : Box w18 b17 [.int .i64 0, .int .i64 0, .int .i64 0] 60 := hb20
    have he22 : Ext w w18 := Ext.trans he15 hn19x
    have hz23 := (hn19x).size
    have hlo21 : w.heap.size ≤ b17 := by rw [hn19e]; exact (he15).size
    refine TL.eff rfl rfl (eff_store rfl rfl rfl hb20 cn_60 rfl rfl) ?_
    rintro _ w24 ⟨hu25, hb26⟩
    have he27 : Ext w w24 := Below.trans he22 (Upd.below hu25 (by omega))
    have hz28 := (hu25).size
    have hb20 : Box w24 b17 [.int .i64 r11.period_, .int .i64 r11.rise_, .int .i64 r11.fall_] 60 := hb26
    refine TL.done ?_
    refine NX.seq ?_
    refine WC.seq ?_
    refine WC.quiet Tryd.hm (by kernel_rfl) ?_
    refine QL.yld rfl rfl (Yld.qui (yld_fieldAddr rfl fo_60_0 rfl)) ?_
    refine QL.yld rfl rfl (Yld.qui (yld_load1 0 rfl ag_2 rfl (Box.cells hb20) rfl rfl)) ?_
    refine QL.yld rfl rfl (Yld.qui (yld_fieldAddr rfl fo_60_1 rfl)) ?_
    refine QL.yld rfl rfl (Yld.qui (yld_load1 1 rfl ag_2 rfl (Box.cells hb20) rfl rfl)) ?_
    refine QL.yld rfl rfl (Yld.qui (yld_fieldAddr rfl fo_60_2 rfl)) ?_
    refine QL.yld rfl rfl (Yld.qui (yld_load1 2 rfl ag_2 rfl (Box.cells hb20) rfl rfl)) ?_
    refine QL.yld rfl rfl (Yld.qui (yld_assign rfl rfl)) ?_
    refine QL.yld rfl rfl (Yld.qui (yld_assign rfl rfl)) ?_
    refine QL.yld rfl rfl (Yld.qui (yld_assign rfl rfl)) ?_
    refine QL.yld rfl rfl (Yld.qui (yld_assign rfl rfl)) ?_
    refine QL.done fun w29 hx30 => ?_
    have he31 : Ext w w29 := Ext.trans he27 hx30
    have hb20 := Box.ext hb20 hx30
    have hz32 := (hx30).size
    refine NX.seq ?_
    refine WC.ret' ?_
    obtain rfl := Option.some.inj hF
    exact NX.end (rs := [.tmp 4, .tmp 5, .tmp 6, .tmp 7]) (vs := [.int .i64 r11.period_, .int .i64 r11.rise_, .int .i64 r11.fall_, .int .i64 0]) rfl ⟨rfl, rfl, rfl, rfl, trivial⟩ ⟨_, rfl, rfl, he31⟩

-- loop.example/g00861/laws.big
def F_laws_big (n : Nat) (a0_code : List Int) : Option Bool := (some (decide ((a0_code.length : Int) > 4096)))
set_option maxHeartbeats 40000000 in
theorem W_laws_big {n : Nat} {a0_code : List Int} {r : Bool} {w : World} {v1 : Value} (hF : F_laws_big n a0_code = some r) (ha2 : slRep (cInt .u8) w (Iv 0 w.heap.size) a0_code v1) :
    Calls Tryd.prog 22 [v1].toArray w (Ret fun u w2 => u = .bool r ∧ Ext w w2) := by
  refine calls_of Tryd.func22 rfl Tryd.ntmps22 ?_
  have he0 : Ext w w := Ext.refl w
  unfold F_laws_big at hF
  refine WC.seq ?_
  refine WC.region ?_
  refine TL.yld rfl rfl (yld_assign rfl rfl) ?_
  refine TL.done ?_
  refine NX.seq ?_
  refine WC.seq ?_
  refine WC.region ?_
  refine TL.yld rfl rfl (yld_move rfl rfl) ?_
  refine TL.yld rfl rfl (ye_len (c := (cInt .u8)) rfl Tryd.underlying32 rfl (slRep.old ha2 he0 (Nat.le_refl _))) ?_
  refine TL.yld rfl rfl (yld_gtr rfl rfl rfl) ?_
  refine TL.yld rfl rfl (yld_assign rfl rfl) ?_
  refine TL.done ?_
  refine NX.seq ?_
  refine WC.ret' ?_
  obtain rfl := Option.some.inj hF
  exact NX.end (rs := [.tmp 2]) (vs := [.bool (decide ((a0_code.length : Int) > 4096))]) rfl ⟨rfl, trivial⟩ ⟨_, rfl, rfl, he0⟩

-- loop.example/g00861/spec.l01From
def F_spec_l01From_L1 (a0_code : List Int) (k0 : Int → Int → Int → Option S_l01Source) : Nat → Int → Int → Int → Option S_l01Source
  | 0 => fun _ _ _ => none
  | m + 1 => fun i12 i14 i15 => (bif ((decide (i12 < (a0_code.length : Int))) && (decide (i12 < 64))) then (Option.bind (getI a0_code i12) fun x22 => (F_spec_l01From_L1 a0_code k0 m (IntKind.wrap IntKind.i64 (i12 + 1)) i14 (Int.tmod (IntKind.wrap IntKind.i64 ((IntKind.wrap IntKind.i64 (i15 * 31)) + (IntKind.wrap IntKind.i64 x22))) 2147483647))) else (k0 i12 i14 i15))
theorem F_spec_l01From_L1_z (a0_code : List Int) (k0 : Int → Int → Int → Option S_l01Source) (i12 : Int) (i14 : Int) (i15 : Int) : F_spec_l01From_L1 a0_code k0 0 i12 i14 i15 = none := rfl
theorem F_spec_l01From_L1_s (m : Nat) (a0_code : List Int) (k0 : Int → Int → Int → Option S_l01Source) (i12 : Int) (i14 : Int) (i15 : Int) : F_spec_l01From_L1 a0_code k0 (m + 1) i12 i14 i15 = (bif ((decide (i12 < (a0_code.length : Int))) && (decide (i12 < 64))) then (Option.bind (getI a0_code i12) fun x22 => (F_spec_l01From_L1 a0_code k0 m (IntKind.wrap IntKind.i64 (i12 + 1)) i14 (Int.tmod (IntKind.wrap IntKind.i64 ((IntKind.wrap IntKind.i64 (i15 * 31)) + (IntKind.wrap IntKind.i64 x22))) 2147483647))) else (k0 i12 i14 i15)) := rfl

def F_spec_l01From (n : Nat) (a0_code : List Int) : Option S_l01Source := (F_spec_l01From_L1 a0_code (fun i12 i14 i15 => (some ((S_l01Source.mk a0_code i14 i15)))) n 0 0 12345)
set_option maxHeartbeats 40000000 in
theorem W_spec_l01From {n : Nat} {a0_code : List Int} {r : S_l01Source} {w : World} {v1 : Value} (hF : F_spec_l01From n a0_code = some r) (ha2 : slRep (cInt .u8) w (Iv 0 w.heap.size) a0_code v1) :
    Calls Tryd.prog 56 [v1].toArray w (Ret fun u w2 => ∃ b0, u = .pointer (some ⟨b0, 0, none⟩) ∧ Box w2 b0 [v1, .int .i64 r.at_, .int .i64 r.seed_] 90 ∧ w.heap.size ≤ b0 ∧ Ext w w2) := by
  refine calls_of Tryd.func56 rfl Tryd.ntmps56 ?_
  have he0 : Ext w w := Ext.refl w
  unfold F_spec_l01From at hF
  refine WC.seq ?_
  refine WC.region ?_
  refine TL.yld rfl rfl (yld_assign rfl rfl) ?_
  refine TL.done ?_
  refine NX.seq ?_
  refine WC.seq ?_
  refine WC.region ?_
  refine TL.yld rfl rfl (yld_move rfl rfl) ?_
  refine TL.yld rfl rfl (yld_build (uss := [(0, [v1]), (2, [.int .i64 12345])]) (out := [v1, .int .i64 0, .int .i64 12345]) rfl rfl zn_90 pl_90 (pt_cons (slRep.cl (slRep.old ha2 he0 (Nat.le_refl _))) (pt_cons rfl rfl)) rfl) ?_
  refine TL.eff rfl rfl (eff_box rfl rfl) ?_
  rintro _ w4 ⟨b3, rfl, hn5⟩
  obtain ⟨hn5e, hn5s, hn5x, hb6⟩ := hn5
  have hb6 : Box w4 b3 [v1, .int .i64 0, .int .i64 12345] 90 := hb6
  have he8 : Ext w w4 := Ext.trans he0 hn5x
  have hz9 := (hn5x).size
  have hlo7 : w.heap.size ≤ b3 := by rw [hn5e]; exact (he0).size
  refine TL.yld rfl rfl (yld_assign rfl rfl) ?_
  refine TL.done ?_
  refine NX.seq ?_
  refine WC.seq ?_
  refine WC.seq ?_
  refine WC.region ?_
  refine TL.yld rfl rfl (yld_assign rfl rfl) ?_
  refine TL.done ?_
  refine NX.seq ?_
  refine WC.block ?_
  refine WC.loop (fun m16 a wl => ∃ (i12 : Int) (i14 : Int) (i15 : Int), Kn 34 [(0, v1), (3, .pointer (some ⟨b3, 0, none⟩)), (4, .int .i64 i12)] a ∧ Ext w wl ∧ w4.heap.size ≤ wl.heap.size ∧ Box wl b3 [v1, .int .i64 i14, .int .i64 i15] 90 ∧ F_spec_l01From_L1 a0_code (fun i12 i14 i15 => (some ((S_l01Source.mk a0_code i14 i15)))) m16 i12 i14 i15 = some r) n ?_ ?_
  · intro a hK; exact ⟨0, 0, 12345, hK.weaken ⟨rfl, rfl, rfl, trivial⟩, he8, Nat.le_refl _, hb6, hF⟩
  · rintro m16 a w10 ⟨i12, i14, i15, hK, he11, hz17, hb13, hF⟩
    revert hK; revert a; refine (?_ : WC _ _ _ _ _ _)
    cases m16 with
    | zero => rw [F_spec_l01From_L1_z] at hF; cases hF
    | succ m16 =>
      rw [F_spec_l01From_L1_s] at hF
      refine WC.seq ?_
      refine WC.seq ?_
      refine WC.region ?_
      refine TL.yld rfl rfl (yld_move rfl rfl) ?_
      refine TL.yld rfl rfl (yld_move rfl rfl) ?_
      refine TL.yld rfl rfl (ye_len (c := (cInt .u8)) rfl Tryd.underlying32 rfl (slRep.old ha2 he11 (Nat.le_refl _))) ?_
      refine TL.yld rfl rfl (yld_lss rfl rfl rfl) ?_
      refine TL.yld rfl rfl (yld_move rfl rfl) ?_
      refine TL.cut 3 [(0, v1), (3, .pointer (some ⟨b3, 0, none⟩)), (4, .int .i64 i12), (15, .bool (((decide (i12 < (a0_code.length : Int))) && (decide (i12 < 64)))))] (fun w' => Ext w10 w') ?_ ?_
      · rcases Bool.eq_false_or_eq_true (decide (i12 < (a0_code.length : Int))) with hg18 | hg18
        ·
          refine TL.gy (j := 4) (t := 12) rfl rfl rfl hg18 rfl (yld_move rfl rfl) ?_
          refine TL.gy (j := 4) (t := 12) rfl rfl rfl hg18 rfl (yld_lss rfl rfl rfl) ?_
          refine TL.yld rfl rfl (yld_and_t rfl rfl hg18 rfl) ?_
          exact TL.nil fun a h => ⟨h.weaken ⟨rfl, rfl, rfl, rfl, trivial⟩, Ext.refl _⟩
        ·
          refine TL.gnu (j := 4) (t := 12) rfl rfl rfl hg18 rfl ?_
          refine TL.gnu (j := 4) (t := 12) rfl rfl rfl hg18 rfl ?_
          refine TL.yld rfl rfl (yld_and_f (b2 := decide (i12 < 64)) rfl rfl hg18 rfl) ?_
          exact TL.nil fun a h => ⟨h.weaken ⟨rfl, rfl, rfl, rfl, trivial⟩, Ext.refl _⟩
      intro w19 hx20
      have he21 : Ext w w19 := Ext.trans he11 hx20
      have hb13 := Box.ext hb13 hx20
      have hz22 := (hx20).size
      refine TL.done ?_
      refine NX.seq ?_
      refine WC.cond rfl ?_ ?_
      · intro hc23
        replace hF := bif_t hc23 hF
        refine WC.skip' ?_
        refine NX.seq ?_
        refine WC.seq ?_
        refine WC.block ?_
        obtain ⟨x24, hy25, hF⟩ := bsome hF
        refine WC.held 13 Tryd.hm fun w37 hx38 => ?_
        have he39 : Ext w w37 := Ext.trans he21 hx38
        have hb13 := Box.ext hb13 hx38
        have hz40 := (hx38).size
        refine HL.yld 0 (by kernel_rfl) rfl (by kernel_rfl) rfl rfl (yld_move rfl rfl) ?_
        refine HL.yld 1 (by kernel_rfl) rfl (by kernel_rfl) rfl rfl (yld_move rfl rfl) ?_
        refine HL.yld 2 (by kernel_rfl) rfl (by kernel_rfl) rfl rfl (yld_nilCheck rfl rfl) ?_
        refine HL.yld 3 (by kernel_rfl) rfl (by kernel_rfl) rfl rfl (yld_fieldAddr rfl fo_90_2 rfl) ?_
        refine HL.yld 4 (by kernel_rfl) rfl (by kernel_rfl) rfl rfl (yld_load1 2 rfl ag_2 rfl (Box.cells hb13) rfl rfl) ?_
        refine HL.yld 5 (by kernel_rfl) rfl (by kernel_rfl) rfl rfl (yld_mul rfl rfl rfl) ?_
        refine HL.yld 6 (by kernel_rfl) rfl (by kernel_rfl) rfl rfl (yld_move rfl rfl) ?_
        refine HL.yld 7 (by kernel_rfl) rfl (by kernel_rfl) rfl rfl (yld_move rfl rfl) ?_
        refine HL.ye 8 (by kernel_rfl) rfl (by kernel_rfl) rfl rfl (ye_index (c := (cInt .u8)) rfl Tryd.underlying32 cn_5 rfl rfl (slRep.old ha2 he39 (Nat.le_refl _)) hy25) ?_
        rintro _ ⟨b41, o42, us43, rfl, hib46, hr44, hcl45⟩
        have hib46 : 0 ≤ b41 ∧ b41 < w.heap.size := ⟨hib46.1, by have := hib46.2; omega⟩
        obtain rfl := hr44
        refine HL.yld 9 (by kernel_rfl) rfl (by kernel_rfl) rfl rfl (yld_load1 0 rfl ag_5 rfl hcl45 rfl rfl) ?_
        refine HL.yld 10 (by kernel_rfl) rfl (by kernel_rfl) rfl rfl (yld_conv rfl Tryd.underlying5 Tryd.underlying2 rfl) ?_
        refine HL.yld 11 (by kernel_rfl) rfl (by kernel_rfl) rfl rfl (yld_add rfl rfl rfl) ?_
        refine HL.yld 12 (by kernel_rfl) rfl (by kernel_rfl) rfl rfl (yld_rem rfl rfl rfl (by decide)) ?_
        refine HL.tail rfl (by kernel_rfl) rfl ?_
        refine TL.yld rfl rfl (yld_nilCheck rfl rfl) ?_
        refine TL.yld rfl rfl (yld_fieldAddr rfl fo_90_2 rfl) ?_
        refine TL.eff rfl rfl (eff_store rfl rfl rfl hb13 cn_2 rfl rfl) ?_
        rintro _ w47 ⟨hu48, hb49⟩
        have he50 : Ext w w47 := Below.trans he39 (Upd.below hu48 (by omega))
        have hz51 := (hu48).size
        have hb13 : Box w47 b3 [v1, .int .i64 i14, .int .i64 (Int.tmod (IntKind.wrap IntKind.i64 ((IntKind.wrap IntKind.i64 (i15 * 31)) + (IntKind.wrap IntKind.i64 x24))) 2147483647)] 90 := hb49
        refine TL.noPan (l := []) ?_
        refine NX.blk_n ?_
        refine NX.seq ?_
        refine WC.region ?_
        refine TL.yld rfl rfl (yld_move rfl rfl) ?_
        refine TL.yld rfl rfl (yld_add rfl rfl rfl) ?_
        refine TL.yld rfl rfl (yld_assign rfl rfl) ?_
        refine TL.done ?_
        refine NX.then_n ?_
        intro a hK; exact ⟨m16, Nat.lt_succ_self m16, (IntKind.wrap IntKind.i64 (i12 + 1)), i14, (Int.tmod (IntKind.wrap IntKind.i64 ((IntKind.wrap IntKind.i64 (i15 * 31)) + (IntKind.wrap IntKind.i64 x24))) 2147483647), hK.weaken ⟨rfl, rfl, rfl, trivial⟩, he50, (by omega), hb13, hF⟩
      · intro hc52
        replace hF := bif_f hc52 hF
        refine WC.exit' ?_
        refine NX.then_e ?_
        refine NX.then_e ?_
        refine NX.blk_hit ?_
        refine NX.seq ?_
        refine WC.seq ?_
        refine WC.region ?_
        refine TL.yld rfl rfl (yld_move rfl rfl) ?_
        refine TL.yld rfl rfl (yld_assign rfl rfl) ?_
        refine TL.done ?_
        refine NX.seq ?_
        refine WC.ret' ?_
        obtain rfl := Option.some.inj hF
        exact NX.end (rs := [.tmp 2]) (vs := [.pointer (some ⟨b3, 0, none⟩)]) rfl ⟨rfl, trivial⟩ ⟨_, rfl, _, rfl, hb13, (by omega), he21⟩

-- loop.example/g00861/spec.l01Next
def F_spec_l01Next (n : Nat) (a0_s : S_l01Source) (a1_n : Int) : Option (Int × S_l01Source) := (bif decide (a1_n ≤ 1) then (some (0, a0_s)) else (bif decide (a0_s.at_ < (a0_s.code_.length : Int)) then (Option.bind (getI a0_s.code_ a0_s.at_) fun x15 => (bif decide (a1_n ≤ 256) then (bif (a1_n == 0) then none else (some (Int.tmod (IntKind.wrap IntKind.i64 x15) a1_n, (S_l01Source.mk a0_s.code_ (IntKind.wrap IntKind.i64 (a0_s.at_ + 1)) a0_s.seed_)))) else (bif (a1_n == 0) then none else (some (Int.tmod (Int.tmod (IntKind.wrap IntKind.i64 ((IntKind.wrap IntKind.i64 ((IntKind.wrap IntKind.i64 (a0_s.seed_ * 48271)) + (IntKind.wrap IntKind.i64 x15))) + 1)) 2147483647) a1_n, (S_l01Source.mk a0_s.code_ (IntKind.wrap IntKind.i64 (a0_s.at_ + 1)) (Int.tmod (IntKind.wrap IntKind.i64 ((IntKind.wrap IntKind.i64 ((IntKind.wrap IntKind.i64 (a0_s.seed_ * 48271)) + (IntKind.wrap IntKind.i64 x15))) + 1)) 2147483647))))))) else (bif (a1_n == 0) then none else (some (Int.tmod (IntKind.wrap IntKind.i64 (Int.tdiv (Int.tmod (IntKind.wrap IntKind.i64 ((IntKind.wrap IntKind.i64 (a0_s.seed_ * 48271)) + 11)) 2147483647) 7)) a1_n, (S_l01Source.mk a0_s.code_ a0_s.at_ (Int.tmod (IntKind.wrap IntKind.i64 ((IntKind.wrap IntKind.i64 (a0_s.seed_ * 48271)) + 11)) 2147483647)))))))
set_option maxHeartbeats 40000000 in
theorem W_spec_l01Next {n : Nat} {a0_s : S_l01Source} {a1_n : Int} {r : Int × S_l01Source} {w : World} {v1 : Value} {lo3 hi4 : Nat} {b0_ : Nat} (hF : F_spec_l01Next n a0_s a1_n = some r) (hb5 : Box w b0_ [v1, .int .i64 a0_s.at_, .int .i64 a0_s.seed_] 90) (ha2 : slRep (cInt .u8) w (Iv lo3 hi4) a0_s.code_ v1) (hh6 : hi4 ≤ w.heap.size) (hh7 : b0_ < lo3 ∨ hi4 ≤ b0_) :
    Calls Tryd.prog 69 [.pointer (some ⟨b0_, 0, none⟩), .int .i64 a1_n].toArray w (Ret fun u w2 => u = .int .i64 r.1 ∧ Box w2 b0_ [v1, .int .i64 r.2.at_, .int .i64 r.2.seed_] 90 ∧ But (pB b0_) w w2) := by
  refine calls_of Tryd.func69 rfl Tryd.ntmps69 ?_
  have he0 : But (pB b0_) w w := But.refl _ w
  have := Box.lt hb5
  unfold F_spec_l01Next at hF
  refine WC.seq ?_
  refine WC.region ?_
  refine TL.yld rfl rfl (yld_assign rfl rfl) ?_
  refine TL.done ?_
  refine NX.seq ?_
  refine WC.seq ?_
  refine WC.seq ?_
  refine WC.region ?_
  refine TL.yld rfl rfl (yld_move rfl rfl) ?_
  refine TL.yld rfl rfl (yld_leq rfl rfl rfl) ?_
  refine TL.done ?_
  refine NX.seq ?_
  refine WC.cond rfl ?_ ?_
  · intro hc8
    replace hF := bif_t hc8 hF
    refine WC.seq ?_
    refine WC.region ?_
    refine TL.yld rfl rfl (yld_assign rfl rfl) ?_
    refine TL.done ?_
    refine NX.seq ?_
    refine WC.ret' ?_
    refine NX.then_r ?_
    obtain rfl := Option.some.inj hF
    exact NX.end (rs := [.tmp 4]) (vs := [.int .i64 0]) rfl ⟨rfl, trivial⟩ ⟨_, rfl, rfl, hb5, he0⟩
  · intro hc9
    replace hF := bif_f hc9 hF
    refine WC.skip' ?_
    refine NX.seq ?_
    refine WC.seq ?_
    refine WC.seq ?_
    refine WC.quiet Tryd.hm (by kernel_rfl) ?_
    refine QL.yld rfl rfl (Yld.qui (yld_move rfl rfl)) ?_
    refine QL.yld rfl rfl (Yld.qui (yld_nilCheck rfl rfl)) ?_
    refine QL.yld rfl rfl (Yld.qui (yld_fieldAddr rfl fo_90_1 rfl)) ?_
    refine QL.yld rfl rfl (Yld.qui (yld_load1 1 rfl ag_3 rfl (Box.cells hb5) rfl rfl)) ?_
    refine QL.yld rfl rfl (Yld.qui (yld_move rfl rfl)) ?_
    refine QL.yld rfl rfl (Yld.qui (yld_nilCheck rfl rfl)) ?_
    refine QL.yld rfl rfl (Yld.qui (yld_fieldAddr rfl fo_90_0 rfl)) ?_
    refine QL.yld rfl rfl (Yld.qui (yld_load1 0 rfl ag_32 rfl (Box.cells hb5) rfl rfl)) ?_
    refine QL.yld rfl rfl (Yld.qui (ye_len (c := (cInt .u8)) rfl Tryd.underlying32 rfl ha2)) ?_
    refine QL.yld rfl rfl (Yld.qui (yld_lss rfl rfl rfl)) ?_
    refine QL.done fun w10 hx11 => ?_
    have he12 : But (pB b0_) w w10 := But.ext he0 hx11
    have hb5 := Box.ext hb5 hx11
    have ha2 := slRep.old ha2 hx11 (by omega)
    have hz13 := (hx11).size
    refine NX.seq ?_
    refine WC.cond rfl ?_ ?_
    · intro hc14
      replace hF := bif_t hc14 hF
      refine WC.seq ?_
      refine WC.quiet Tryd.hm (by kernel_rfl) ?_
      refine QL.yld rfl rfl (Yld.qui (yld_move rfl rfl)) ?_
      refine QL.yld rfl rfl (Yld.qui (yld_nilCheck rfl rfl)) ?_
      refine QL.yld rfl rfl (Yld.qui (yld_fieldAddr rfl fo_90_0 rfl)) ?_
      refine QL.yld rfl rfl (Yld.qui (yld_load1 0 rfl ag_32 rfl (Box.cells hb5) rfl rfl)) ?_
      refine QL.yld rfl rfl (Yld.qui (yld_move rfl rfl)) ?_
      refine QL.yld rfl rfl (Yld.qui (yld_nilCheck rfl rfl)) ?_
      refine QL.yld rfl rfl (Yld.qui (yld_fieldAddr rfl fo_90_1 rfl)) ?_
      refine QL.yld rfl rfl (Yld.qui (yld_load1 1 rfl ag_3 rfl (Box.cells hb5) rfl rfl)) ?_
      obtain ⟨x15, hy16, hF⟩ := bsome hF
      refine QL.ye rfl rfl (ye_index (c := (cInt .u8)) rfl Tryd.underlying32 cn_5 rfl rfl ha2 hy16) ?_
      rintro _ ⟨b17, o18, us19, rfl, hib22, hr20, hcl21⟩
      have hib22 : lo3 ≤ b17 ∧ b17 < hi4 := ⟨hib22.1, by have := hib22.2; omega⟩
      obtain rfl := hr20
      refine QL.yld rfl rfl (Yld.qui (yld_load1 0 rfl ag_5 rfl hcl21 rfl rfl)) ?_
      refine QL.yld rfl rfl (Yld.qui (yld_conv rfl Tryd.underlying5 Tryd.underlying2 rfl)) ?_
      refine QL.yld rfl rfl (Yld.qui (yld_assign rfl rfl)) ?_
      refine QL.done fun w23 hx24 => ?_
      have he25 : But (pB b0_) w w23 := But.ext he12 hx24
      have hb5 := Box.ext hb5 hx24
      have ha2 := slRep.old ha2 hx24 (by omega)
      have hz26 := (hx24).size
      refine NX.seq ?_
      refine WC.seq ?_
      refine WC.region ?_
      refine TL.yld rfl rfl (yld_move rfl rfl) ?_
      refine TL.yld rfl rfl (yld_nilCheck rfl rfl) ?_
      refine TL.yld rfl rfl (yld_fieldAddr rfl fo_90_1 rfl) ?_
      refine TL.yld rfl rfl (yld_load1 1 rfl ag_3 rfl (Box.cells hb5) rfl rfl) ?_
      refine TL.yld rfl rfl (yld_add rfl rfl rfl) ?_
      refine TL.yld rfl rfl (yld_nilCheck rfl rfl) ?_
      refine TL.yld rfl rfl (yld_fieldAddr rfl fo_90_1 rfl) ?_
      refine TL.eff rfl rfl (eff_store rfl rfl rfl hb5 cn_3 rfl rfl) ?_
      rintro _ w27 ⟨hu28, hb29⟩
      have he30 : But (pB b0_) w w27 := But.upd he25 hu28 (Or.inl rfl)
      have ha2 := slRep.upd ha2 hu28 (by omega)
      have hz31 := (hu28).size
      have hb5 : Box w27 b0_ [v1, .int .i64 (IntKind.wrap IntKind.i64 (a0_s.at_ + 1)), .int .i64 a0_s.seed_] 90 := hb29
      refine TL.done ?_
      refine NX.seq ?_
      refine WC.seq ?_
      refine WC.seq ?_
      refine WC.region ?_
      refine TL.yld rfl rfl (yld_move rfl rfl) ?_
      refine TL.yld rfl rfl (yld_leq rfl rfl rfl) ?_
      refine TL.done ?_
      refine NX.seq ?_
      refine WC.cond rfl ?_ ?_
      · intro hc32
        replace hF := bif_t hc32 hF
        refine WC.seq ?_
        refine WC.region ?_
        refine TL.yld rfl rfl (yld_move rfl rfl) ?_
        refine TL.yld rfl rfl (yld_move rfl rfl) ?_
        obtain ⟨hn33, hF⟩ := nzero hF
        refine TL.yld rfl rfl (yld_rem rfl rfl rfl hn33) ?_
        refine TL.yld rfl rfl (yld_assign rfl rfl) ?_
        refine TL.done ?_
        refine NX.seq ?_
        refine WC.ret' ?_
        refine NX.then_r ?_
        refine NX.then_r ?_
        obtain rfl := Option.some.inj hF
        exact NX.end (rs := [.tmp 4]) (vs := [.int .i64 (Int.tmod (IntKind.wrap IntKind.i64 x15) a1_n)]) rfl ⟨rfl, trivial⟩ ⟨_, rfl, rfl, hb5, he30⟩
      · intro hc34
        replace hF := bif_f hc34 hF
        refine WC.skip' ?_
        refine NX.seq ?_
        refine WC.seq ?_
        refine WC.region ?_
        refine TL.yld rfl rfl (yld_move rfl rfl) ?_
        refine TL.yld rfl rfl (yld_move rfl rfl) ?_
        refine TL.yld rfl rfl (yld_nilCheck rfl rfl) ?_
        refine TL.yld rfl rfl (yld_fieldAddr rfl fo_90_2 rfl) ?_
        refine TL.yld rfl rfl (yld_load1 2 rfl ag_2 rfl (Box.cells hb5) rfl rfl) ?_
        refine TL.yld rfl rfl (yld_mul rfl rfl rfl) ?_
        refine TL.yld rfl rfl (yld_move rfl rfl) ?_
        refine TL.yld rfl rfl (yld_add rfl rfl rfl) ?_
        refine TL.yld rfl rfl (yld_add rfl rfl rfl) ?_
        refine TL.yld rfl rfl (yld_rem rfl rfl rfl (by decide)) ?_
        refine TL.yld rfl rfl (yld_nilCheck rfl rfl) ?_
        refine TL.yld rfl rfl (yld_fieldAddr rfl fo_90_2 rfl) ?_
        refine TL.eff rfl rfl (eff_store rfl rfl rfl hb5 cn_2 rfl rfl) ?_
        rintro _ w35 ⟨hu36, hb37⟩
        have he38 : But (pB b0_) w w35 := But.upd he30 hu36 (Or.inl rfl)
        have ha2 := slRep.upd ha2 hu36 (by omega)
        have hz39 := (hu36).size
        have hb5 : Box w35 b0_ [v1, .int .i64 (IntKind.wrap IntKind.i64 (a0_s.at_ + 1)), .int .i64 (Int.tmod (IntKind.wrap IntKind.i64 ((IntKind.wrap IntKind.i64 ((IntKind.wrap IntKind.i64 (a0_s.seed_ * 48271)) + (IntKind.wrap IntKind.i64 x15))) + 1)) 2147483647)] 90 := hb37
        refine TL.done ?_
        refine NX.seq ?_
        refine WC.seq ?_
        refine WC.region ?_
        refine TL.yld rfl rfl (yld_move rfl rfl) ?_
        refine TL.yld rfl rfl (yld_nilCheck rfl rfl) ?_
        refine TL.yld rfl rfl (yld_fieldAddr rfl fo_90_2 rfl) ?_
        refine TL.yld rfl rfl (yld_load1 2 rfl ag_2 rfl (Box.cells hb5) rfl rfl) ?_
        refine TL.yld rfl rfl (yld_move rfl rfl) ?_
        obtain ⟨hn40, hF⟩ := nzero hF
        refine TL.yld rfl rfl (yld_rem rfl rfl rfl hn40) ?_
        refine TL.yld rfl rfl (yld_assign rfl rfl) ?_
        refine TL.done ?_
        refine NX.seq ?_
        refine WC.ret' ?_
        refine NX.then_r ?_
        obtain rfl := Option.some.inj hF
        exact NX.end (rs := [.tmp 4]) (vs := [.int .i64 (Int.tmod (Int.tmod (IntKind.wrap IntKind.i64 ((IntKind.wrap IntKind.i64 ((IntKind.wrap IntKind.i64 (a0_s.seed_ * 48271)) + (IntKind.wrap IntKind.i64 x15))) + 1)) 2147483647) a1_n)]) rfl ⟨rfl, trivial⟩ ⟨_, rfl, rfl, hb5, he38⟩
    · intro hc41
      replace hF := bif_f hc41 hF
      refine WC.skip' ?_
      refine NX.seq ?_
      refine WC.seq ?_
      refine WC.region ?_
      refine TL.yld rfl rfl (yld_move rfl rfl) ?_
      refine TL.yld rfl rfl (yld_move rfl rfl) ?_
      refine TL.yld rfl rfl (yld_nilCheck rfl rfl) ?_
      refine TL.yld rfl rfl (yld_fieldAddr rfl fo_90_2 rfl) ?_
      refine TL.yld rfl rfl (yld_load1 2 rfl ag_2 rfl (Box.cells hb5) rfl rfl) ?_
      refine TL.yld rfl rfl (yld_mul rfl rfl rfl) ?_
      refine TL.yld rfl rfl (yld_add rfl rfl rfl) ?_
      refine TL.yld rfl rfl (yld_rem rfl rfl rfl (by decide)) ?_
      refine TL.yld rfl rfl (yld_nilCheck rfl rfl) ?_
      refine TL.yld rfl rfl (yld_fieldAddr rfl fo_90_2 rfl) ?_
      refine TL.eff rfl rfl (eff_store rfl rfl rfl hb5 cn_2 rfl rfl) ?_
      rintro _ w42 ⟨hu43, hb44⟩
      have he45 : But (pB b0_) w w42 := But.upd he12 hu43 (Or.inl rfl)
      have ha2 := slRep.upd ha2 hu43 (by omega)
      have hz46 := (hu43).size
      have hb5 : Box w42 b0_ [v1, .int .i64 a0_s.at_, .int .i64 (Int.tmod (IntKind.wrap IntKind.i64 ((IntKind.wrap IntKind.i64 (a0_s.seed_ * 48271)) + 11)) 2147483647)] 90 := hb44
      refine TL.done ?_
      refine NX.seq ?_
      refine WC.seq ?_
      refine WC.region ?_
      refine TL.yld rfl rfl (yld_move rfl rfl) ?_
      refine TL.yld rfl rfl (yld_nilCheck rfl rfl) ?_
      refine TL.yld rfl rfl (yld_fieldAddr rfl fo_90_2 rfl) ?_
      refine TL.yld rfl rfl (yld_load1 2 rfl ag_2 rfl (Box.cells hb5) rfl rfl) ?_
      refine TL.yld rfl rfl (yld_quo rfl rfl rfl (by decide)) ?_
      refine TL.yld rfl rfl (yld_move rfl rfl) ?_
      obtain ⟨hn47, hF⟩ := nzero hF
      refine TL.yld rfl rfl (yld_rem rfl rfl rfl hn47) ?_
      refine TL.yld rfl rfl (yld_assign rfl rfl) ?_
      refine TL.done ?_
      refine NX.seq ?_
      refine WC.ret' ?_
      obtain rfl := Option.some.inj hF
      exact NX.end (rs := [.tmp 4]) (vs := [.int .i64 (Int.tmod (IntKind.wrap IntKind.i64 (Int.tdiv (Int.tmod (IntKind.wrap IntKind.i64 ((IntKind.wrap IntKind.i64 (a0_s.seed_ * 48271)) + 11)) 2147483647) 7)) a1_n)]) rfl ⟨rfl, trivial⟩ ⟨_, rfl, rfl, hb5, he45⟩

-- loop.example/g00861/spec.l01Number
def F_spec_l01Number : Nat → Int → Option ByteArray
  | 0 => fun _ => none
  | n + 1 => fun a0_n => (bif decide (a0_n < 0) then (Option.bind (F_spec_l01Number n (IntKind.wrap IntKind.i64 (0 - a0_n))) fun r2 => (Option.bind (catS ((ByteArray.mk #[45])) r2) fun t8 => (some t8))) else (bif decide (a0_n < 10) then (some ((strB ([IntKind.wrap IntKind.u8 (IntKind.wrap IntKind.i64 (48 + a0_n))])))) else (Option.bind (F_spec_l01Number n (IntKind.wrap IntKind.i64 (Int.tdiv a0_n 10))) fun r26 => (Option.bind (catS r26 ((strB ([IntKind.wrap IntKind.u8 (IntKind.wrap IntKind.i64 (48 + (Int.tmod a0_n 10)))])))) fun t45 => (some t45)))))
theorem F_spec_l01Number_z (a0_n : Int) : F_spec_l01Number 0 a0_n = none := rfl
theorem F_spec_l01Number_s (n : Nat) (a0_n : Int) : F_spec_l01Number (n + 1) a0_n = (bif decide (a0_n < 0) then (Option.bind (F_spec_l01Number n (IntKind.wrap IntKind.i64 (0 - a0_n))) fun r2 => (Option.bind (catS ((ByteArray.mk #[45])) r2) fun t8 => (some t8))) else (bif decide (a0_n < 10) then (some ((strB ([IntKind.wrap IntKind.u8 (IntKind.wrap IntKind.i64 (48 + a0_n))])))) else (Option.bind (F_spec_l01Number n (IntKind.wrap IntKind.i64 (Int.tdiv a0_n 10))) fun r26 => (Option.bind (catS r26 ((strB ([IntKind.wrap IntKind.u8 (IntKind.wrap IntKind.i64 (48 + (Int.tmod a0_n 10)))])))) fun t45 => (some t45))))) := rfl
set_option maxHeartbeats 40000000 in
theorem W_spec_l01Number {n : Nat} {a0_n : Int} {r : ByteArray} {w : World} (hF : F_spec_l01Number n a0_n = some r) :
    Calls Tryd.prog 78 [.int .i64 a0_n].toArray w (Ret fun u w2 => u = .string r ∧ Ext w w2) := by
  cases n with
  | zero => rw [F_spec_l01Number_z] at hF; cases hF
  | succ n =>
    refine calls_of Tryd.func78 rfl Tryd.ntmps78 ?_
    have he0 : Ext w w := Ext.refl w
    rw [F_spec_l01Number_s] at hF
    refine WC.seq ?_
    refine WC.region ?_
    refine TL.yld rfl rfl (yld_assign rfl rfl) ?_
    refine TL.done ?_
    refine NX.seq ?_
    refine WC.seq ?_
    refine WC.seq ?_
    refine WC.region ?_
    refine TL.yld rfl rfl (yld_move rfl rfl) ?_
    refine TL.yld rfl rfl (yld_lss rfl rfl rfl) ?_
    refine TL.done ?_
    refine NX.seq ?_
    refine WC.cond rfl ?_ ?_
    · intro hc1
      replace hF := bif_t hc1 hF
      refine WC.seq ?_
      refine WC.region ?_
      refine TL.yld rfl rfl (yld_move rfl rfl) ?_
      refine TL.yld rfl rfl (yld_neg rfl rfl) ?_
      obtain ⟨r2, hr3, hF⟩ := bsome hF
      refine TL.eff rfl rfl (eff_call rfl gf_78 rfl (W_spec_l01Number hr3)) ?_
      rintro _ w4 ⟨rfl, hx5⟩
      have he6 : Ext w w4 := Ext.trans he0 hx5
      have hz7 := (hx5).size
      obtain ⟨t8, ht9, hF⟩ := bsome hF
      refine TL.yld rfl rfl (yld_cat rfl rfl rfl ht9) ?_
      refine TL.yld rfl rfl (yld_assign rfl rfl) ?_
      refine TL.done ?_
      refine NX.seq ?_
      refine WC.ret' ?_
      refine NX.then_r ?_
      obtain rfl := Option.some.inj hF
      exact NX.end (rs := [.tmp 2]) (vs := [.string t8]) rfl ⟨rfl, trivial⟩ ⟨_, rfl, rfl, he6⟩
    · intro hc10
      replace hF := bif_f hc10 hF
      refine WC.skip' ?_
      refine NX.seq ?_
      refine WC.seq ?_
      refine WC.seq ?_
      refine WC.region ?_
      refine TL.yld rfl rfl (yld_move rfl rfl) ?_
      refine TL.yld rfl rfl (yld_lss rfl rfl rfl) ?_
      refine TL.done ?_
      refine NX.seq ?_
      refine WC.cond rfl ?_ ?_
      · intro hc11
        replace hF := bif_t hc11 hF
        refine WC.seq ?_
        refine WC.region ?_
        refine TL.yld rfl rfl (yld_move rfl rfl) ?_
        refine TL.yld rfl rfl (yld_add rfl rfl rfl) ?_
        refine TL.yld rfl rfl (yld_conv rfl Tryd.underlying2 Tryd.underlying5 rfl) ?_
        refine TL.eff rfl rfl (eff_buildSlice (c := (cInt .u8)) (xs := [IntKind.wrap IntKind.u8 (IntKind.wrap IntKind.i64 (48 + a0_n))]) (S := (Iv 0 0)) (uss := [(0, [.int .u8 (IntKind.wrap IntKind.u8 (IntKind.wrap IntKind.i64 (48 + a0_n)))])]) (out := [.int .u8 (IntKind.wrap IntKind.u8 (IntKind.wrap IntKind.i64 (48 + a0_n)))]) rfl Tryd.underlying32 in_5 rfl rfl (fillL_all [[.int .u8 (IntKind.wrap IntKind.u8 (IntKind.wrap IntKind.i64 (48 + a0_n)))]] rfl rfl rfl) rfl rfl rfl rfl (one_rep (uss := [[.int .u8 (IntKind.wrap IntKind.u8 (IntKind.wrap IntKind.i64 (48 + a0_n)))]]) (show reps _ _ _ _ _ from ⟨rfl, trivial⟩) rfl) (fun k h => by have := h.2; omega) rfl) ?_
        rintro v12 w13 ⟨g14, hv15, hg16, hz17, hx18, hs19⟩
        have he20 : Ext w w13 := Ext.trans he0 hx18
        have hz21 := (hx18).size
        have hlo22 : w.heap.size ≤ g14 := by rw [hg16]; exact (he0).size
        have hbd23 := bd_of hv15
        clear hv15
        refine TL.yld rfl rfl (yld_bytes rfl Tryd.underlying32 Tryd.underlying5 Tryd.underlying9 rfl (ownR.slf hs19 (Nat.le_refl _) (Nat.le_refl _))) ?_
        refine TL.yld rfl rfl (yld_assign rfl rfl) ?_
        refine TL.done ?_
        refine NX.seq ?_
        refine WC.ret' ?_
        refine NX.then_r ?_
        obtain rfl := Option.some.inj hF
        exact NX.end (rs := [.tmp 2]) (vs := [.string ((strB ([IntKind.wrap IntKind.u8 (IntKind.wrap IntKind.i64 (48 + a0_n))])))]) rfl ⟨rfl, trivial⟩ ⟨_, rfl, rfl, he20⟩
      · intro hc25
        replace hF := bif_f hc25 hF
        refine WC.skip' ?_
        refine NX.seq ?_
        refine WC.seq ?_
        obtain ⟨r26, hr27, hF⟩ := bsome hF
        obtain ⟨t45, ht46, hF⟩ := bsome hF
        refine WC.join (fun a wl => Kn 26 [(2, .string t45)] a ∧ Ext w wl ∧ w.heap.size ≤ wl.heap.size) ?_ ?_
        ·
          refine WC.held 9 Tryd.hm fun w50 hx51 => ?_
          have he52 : Ext w w50 := Ext.trans he0 hx51
          have hz53 := (hx51).size
          refine HL.yld 0 (by kernel_rfl) rfl (by kernel_rfl) rfl rfl (yld_move rfl rfl) ?_
          refine HL.yld 1 (by kernel_rfl) rfl (by kernel_rfl) rfl rfl (yld_quo rfl rfl rfl (by decide)) ?_
          refine HL.yld 3 (by kernel_rfl) rfl (by kernel_rfl) rfl rfl (yld_move rfl rfl) ?_
          refine HL.yld 4 (by kernel_rfl) rfl (by kernel_rfl) rfl rfl (yld_rem rfl rfl rfl (by decide)) ?_
          refine HL.yld 5 (by kernel_rfl) rfl (by kernel_rfl) rfl rfl (yld_add rfl rfl rfl) ?_
          refine HL.yld 6 (by kernel_rfl) rfl (by kernel_rfl) rfl rfl (yld_conv rfl Tryd.underlying2 Tryd.underlying5 rfl) ?_
          refine HL.many (js := [2, 7]) (by kernel_rfl) rfl (all_two ?_ ?_)
          ·
            refine HB.eff 2 rfl rfl (by kernel_rfl) rfl rfl (eff_call rfl gf_78 rfl (W_spec_l01Number hr27)) ?_
            rintro _ w54 ⟨rfl, hx55⟩
            have hbs56 : Ext w50 w54 := Ext.trans (Ext.refl w50) hx55
            have he57 : Ext w w54 := Ext.trans he52 hx55
            have hz58 := (hx55).size
            refine ⟨hbs56, ?_⟩
            refine HL.eff 7 rfl rfl (by kernel_rfl) rfl rfl (eff_buildSlice (c := (cInt .u8)) (xs := [IntKind.wrap IntKind.u8 (IntKind.wrap IntKind.i64 (48 + (Int.tmod a0_n 10)))]) (S := (Iv 0 0)) (uss := [(0, [.int .u8 (IntKind.wrap IntKind.u8 (IntKind.wrap IntKind.i64 (48 + (Int.tmod a0_n 10))))])]) (out := [.int .u8 (IntKind.wrap IntKind.u8 (IntKind.wrap IntKind.i64 (48 + (Int.tmod a0_n 10))))]) rfl Tryd.underlying32 in_5 rfl rfl (fillL_all [[.int .u8 (IntKind.wrap IntKind.u8 (IntKind.wrap IntKind.i64 (48 + (Int.tmod a0_n 10))))]] rfl rfl rfl) rfl rfl rfl rfl (one_rep (uss := [[.int .u8 (IntKind.wrap IntKind.u8 (IntKind.wrap IntKind.i64 (48 + (Int.tmod a0_n 10))))]]) (show reps _ _ _ _ _ from ⟨rfl, trivial⟩) rfl) (fun k h => by have := h.2; omega) rfl) ?_
            rintro v59 w60 ⟨g61, hv62, hg63, hz64, hx65, hs66⟩
            have hbs67 : Ext w50 w60 := Ext.trans hbs56 hx65
            have he68 : Ext w w60 := Ext.trans he57 hx65
            have hz69 := (hx65).size
            have hlo70 : w.heap.size ≤ g61 := by rw [hg63]; exact (he57).size
            have hbd71 := bd_of hv62
            clear hv62
            refine ⟨hbs67, ?_⟩
            refine HL.shrink ?_
            refine HL.yld 8 (by kernel_rfl) rfl (by kernel_rfl) rfl rfl (yld_bytes rfl Tryd.underlying32 Tryd.underlying5 Tryd.underlying9 rfl (ownR.slf hs66 (Nat.le_refl _) (Nat.le_refl _))) ?_
            refine HL.tail rfl (by kernel_rfl) rfl ?_
            refine TL.yld rfl rfl (yld_cat rfl rfl rfl ht46) ?_
            refine TL.yld rfl rfl (yld_assign rfl rfl) ?_
            refine TL.noPan (l := []) ?_
            exact fun a hK => ⟨rfl, hK.weaken ⟨rfl, trivial⟩, he68, (by omega)⟩
          ·
            refine HB.eff 7 rfl rfl (by kernel_rfl) rfl rfl (eff_buildSlice (c := (cInt .u8)) (xs := [IntKind.wrap IntKind.u8 (IntKind.wrap IntKind.i64 (48 + (Int.tmod a0_n 10)))]) (S := (Iv 0 0)) (uss := [(0, [.int .u8 (IntKind.wrap IntKind.u8 (IntKind.wrap IntKind.i64 (48 + (Int.tmod a0_n 10))))])]) (out := [.int .u8 (IntKind.wrap IntKind.u8 (IntKind.wrap IntKind.i64 (48 + (Int.tmod a0_n 10))))]) rfl Tryd.underlying32 in_5 rfl rfl (fillL_all [[.int .u8 (IntKind.wrap IntKind.u8 (IntKind.wrap IntKind.i64 (48 + (Int.tmod a0_n 10))))]] rfl rfl rfl) rfl rfl rfl rfl (one_rep (uss := [[.int .u8 (IntKind.wrap IntKind.u8 (IntKind.wrap IntKind.i64 (48 + (Int.tmod a0_n 10))))]]) (show reps _ _ _ _ _ from ⟨rfl, trivial⟩) rfl) (fun k h => by have := h.2; omega) rfl) ?_
            rintro v73 w74 ⟨g75, hv76, hg77, hz78, hx79, hs80⟩
            have hbs81 : Ext w50 w74 := Ext.trans (Ext.refl w50) hx79
            have he82 : Ext w w74 := Ext.trans he52 hx79
            have hz83 := (hx79).size
            have hlo84 : w.heap.size ≤ g75 := by rw [hg77]; exact (he52).size
            have hbd85 := bd_of hv76
            clear hv76
            refine ⟨hbs81, ?_⟩
            refine HL.shrink ?_
            refine HL.yld 8 (by kernel_rfl) rfl (by kernel_rfl) rfl rfl (yld_bytes rfl Tryd.underlying32 Tryd.underlying5 Tryd.underlying9 rfl (ownR.slf hs80 (Nat.le_refl _) (Nat.le_refl _))) ?_
            refine HL.eff 2 rfl rfl (by kernel_rfl) rfl rfl (eff_call rfl gf_78 rfl (W_spec_l01Number hr27)) ?_
            rintro _ w87 ⟨rfl, hx88⟩
            have hbs89 : Ext w74 w87 := Ext.trans (Ext.refl w74) hx88
            have he90 : Ext w w87 := Ext.trans he82 hx88
            have hs80 := ownR.ext hs80 hx88
            have hz91 := (hx88).size
            refine ⟨hbs89, ?_⟩
            refine HL.tail rfl (by kernel_rfl) rfl ?_
            refine TL.yld rfl rfl (yld_cat rfl rfl rfl ht46) ?_
            refine TL.yld rfl rfl (yld_assign rfl rfl) ?_
            refine TL.noPan (l := []) ?_
            exact fun a hK => ⟨rfl, hK.weaken ⟨rfl, trivial⟩, he90, (by omega)⟩
        ·
          rintro a w47 ⟨hK, he48, hz49⟩
          revert hK; revert a; refine (?_ : NX _ _ _ _ _)
          refine NX.seq ?_
          refine WC.ret' ?_
          obtain rfl := Option.some.inj hF
          exact NX.end (rs := [.tmp 2]) (vs := [.string t45]) rfl ⟨rfl, trivial⟩ ⟨_, rfl, rfl, he48⟩
termination_by n

-- loop.example/g00861/spec.l14Draw
def F_spec_l14Draw_L2 (n : Nat) (k3 : (List S_Clock) → Option ((List S_Clock) × S_l01Source)) : Nat → (List S_Clock) → Option ((List S_Clock) × S_l01Source)
  | 0 => fun _ => none
  | m + 1 => fun l181 => (bif decide ((l181.length : Int) < 7) then (Option.bind (getI l181 0) fun x189 => (Option.bind (F_spec_l01Number n ((l181.length : Int))) fun r208 => (Option.bind (catS ((ByteArray.mk #[120])) r208) fun t214 => (Option.bind (appN l181 ([(S_Clock.mk t214 x189.Place x189.Period x189.RiseAt x189.FallAt x189.Source x189.Divide x189.Invert x189.EarlyLatency x189.LateLatency x189.Uncertainty)]) 96) fun z234 => (F_spec_l14Draw_L2 n k3 m z234))))) else (k3 l181))
theorem F_spec_l14Draw_L2_z (n : Nat) (k3 : (List S_Clock) → Option ((List S_Clock) × S_l01Source)) (l181 : List S_Clock) : F_spec_l14Draw_L2 n k3 0 l181 = none := rfl
theorem F_spec_l14Draw_L2_s (m : Nat) (n : Nat) (k3 : (List S_Clock) → Option ((List S_Clock) × S_l01Source)) (l181 : List S_Clock) : F_spec_l14Draw_L2 n k3 (m + 1) l181 = (bif decide ((l181.length : Int) < 7) then (Option.bind (getI l181 0) fun x189 => (Option.bind (F_spec_l01Number n ((l181.length : Int))) fun r208 => (Option.bind (catS ((ByteArray.mk #[120])) r208) fun t214 => (Option.bind (appN l181 ([(S_Clock.mk t214 x189.Place x189.Period x189.RiseAt x189.FallAt x189.Source x189.Divide x189.Invert x189.EarlyLatency x189.LateLatency x189.Uncertainty)]) 96) fun z234 => (F_spec_l14Draw_L2 n k3 m z234))))) else (k3 l181)) := rfl

def F_spec_l14Draw_L1 (n : Nat) (a0_s : S_l01Source) (k0 : (List S_Clock) → Int → Int → Int → Option ((List S_Clock) × S_l01Source)) : Nat → (List S_Clock) → Int → Int → Int → Option ((List S_Clock) × S_l01Source)
  | 0 => fun _ _ _ _ => none
  | m + 1 => fun l31 i35 i37 i38 => (bif decide (i35 > 0) then (Option.bind (F_spec_l01Next n ((S_l01Source.mk a0_s.code_ i37 i38)) 30) fun r42 => (Option.bind (F_spec_l01Number n ((l31.length : Int))) fun r50 => (Option.bind (catS ((ByteArray.mk #[99])) r50) fun t56 => (Option.bind (F_spec_l01Next n ((S_l01Source.mk a0_s.code_ r42.2.at_ r42.2.seed_)) 20) fun r58 => (Option.bind (F_spec_l01Next n ((S_l01Source.mk a0_s.code_ r58.2.at_ r58.2.seed_)) 20) fun r66 => (Option.bind (F_spec_l01Next n ((S_l01Source.mk a0_s.code_ r66.2.at_ r66.2.seed_)) 8) fun r74 => (Option.bind (bif (((l31.length : Int)) == 0) then (some (true, r74.2.at_, r74.2.seed_)) else (Option.bind (F_spec_l01Next n ((S_l01Source.mk a0_s.code_ r74.2.at_ r74.2.seed_)) 3) fun r94 => (some ((r94.1 == 0), r94.2.at_, r94.2.seed_)))) fun c94 => (bif c94.1 then (Option.bind (F_spec_l01Next n ((S_l01Source.mk a0_s.code_ c94.2.1 c94.2.2)) 7) fun r125 => (Option.bind (getI ([10, 12, 20, 30, 100, 7, 2]) r125.1) fun x134 => (Option.bind (F_spec_l01Next n ((S_l01Source.mk a0_s.code_ r125.2.at_ r125.2.seed_)) x134) fun r146 => (Option.bind (F_spec_l01Next n ((S_l01Source.mk a0_s.code_ r146.2.at_ r146.2.seed_)) (IntKind.wrap IntKind.i64 (x134 - 1))) fun r160 => (bif (x134 == 0) then none else (Option.bind (appN l31 ([(S_Clock.mk t56 r58.1 x134 r146.1 (Int.tmod (IntKind.wrap IntKind.i64 ((IntKind.wrap IntKind.i64 (r146.1 + 1)) + r160.1)) x134) (-1) 1 false r42.1 (IntKind.wrap IntKind.i64 (r42.1 + r66.1)) r74.1)]) 96) fun z205 => (F_spec_l14Draw_L1 n a0_s k0 m z205 (IntKind.wrap IntKind.i64 (i35 - 1)) r160.2.at_ r160.2.seed_))))))) else (Option.bind (F_spec_l01Next n ((S_l01Source.mk a0_s.code_ c94.2.1 c94.2.2)) ((l31.length : Int))) fun r223 => (Option.bind (F_spec_l01Next n ((S_l01Source.mk a0_s.code_ r223.2.at_ r223.2.seed_)) 4) fun r236 => (Option.bind (F_spec_l01Next n ((S_l01Source.mk a0_s.code_ r236.2.at_ r236.2.seed_)) 3) fun r249 => (Option.bind (appN l31 ([(S_Clock.mk t56 r58.1 0 0 0 r223.1 (IntKind.wrap IntKind.i64 (1 + r236.1)) ((r249.1 == 0)) r42.1 (IntKind.wrap IntKind.i64 (r42.1 + r66.1)) r74.1)]) 96) fun z275 => (F_spec_l14Draw_L1 n a0_s k0 m z275 (IntKind.wrap IntKind.i64 (i35 - 1)) r249.2.at_ r249.2.seed_))))))))))))) else (k0 l31 i35 i37 i38))
theorem F_spec_l14Draw_L1_z (n : Nat) (a0_s : S_l01Source) (k0 : (List S_Clock) → Int → Int → Int → Option ((List S_Clock) × S_l01Source)) (l31 : List S_Clock) (i35 : Int) (i37 : Int) (i38 : Int) : F_spec_l14Draw_L1 n a0_s k0 0 l31 i35 i37 i38 = none := rfl
theorem F_spec_l14Draw_L1_s (m : Nat) (n : Nat) (a0_s : S_l01Source) (k0 : (List S_Clock) → Int → Int → Int → Option ((List S_Clock) × S_l01Source)) (l31 : List S_Clock) (i35 : Int) (i37 : Int) (i38 : Int) : F_spec_l14Draw_L1 n a0_s k0 (m + 1) l31 i35 i37 i38 = (bif decide (i35 > 0) then (Option.bind (F_spec_l01Next n ((S_l01Source.mk a0_s.code_ i37 i38)) 30) fun r42 => (Option.bind (F_spec_l01Number n ((l31.length : Int))) fun r50 => (Option.bind (catS ((ByteArray.mk #[99])) r50) fun t56 => (Option.bind (F_spec_l01Next n ((S_l01Source.mk a0_s.code_ r42.2.at_ r42.2.seed_)) 20) fun r58 => (Option.bind (F_spec_l01Next n ((S_l01Source.mk a0_s.code_ r58.2.at_ r58.2.seed_)) 20) fun r66 => (Option.bind (F_spec_l01Next n ((S_l01Source.mk a0_s.code_ r66.2.at_ r66.2.seed_)) 8) fun r74 => (Option.bind (bif (((l31.length : Int)) == 0) then (some (true, r74.2.at_, r74.2.seed_)) else (Option.bind (F_spec_l01Next n ((S_l01Source.mk a0_s.code_ r74.2.at_ r74.2.seed_)) 3) fun r94 => (some ((r94.1 == 0), r94.2.at_, r94.2.seed_)))) fun c94 => (bif c94.1 then (Option.bind (F_spec_l01Next n ((S_l01Source.mk a0_s.code_ c94.2.1 c94.2.2)) 7) fun r125 => (Option.bind (getI ([10, 12, 20, 30, 100, 7, 2]) r125.1) fun x134 => (Option.bind (F_spec_l01Next n ((S_l01Source.mk a0_s.code_ r125.2.at_ r125.2.seed_)) x134) fun r146 => (Option.bind (F_spec_l01Next n ((S_l01Source.mk a0_s.code_ r146.2.at_ r146.2.seed_)) (IntKind.wrap IntKind.i64 (x134 - 1))) fun r160 => (bif (x134 == 0) then none else (Option.bind (appN l31 ([(S_Clock.mk t56 r58.1 x134 r146.1 (Int.tmod (IntKind.wrap IntKind.i64 ((IntKind.wrap IntKind.i64 (r146.1 + 1)) + r160.1)) x134) (-1) 1 false r42.1 (IntKind.wrap IntKind.i64 (r42.1 + r66.1)) r74.1)]) 96) fun z205 => (F_spec_l14Draw_L1 n a0_s k0 m z205 (IntKind.wrap IntKind.i64 (i35 - 1)) r160.2.at_ r160.2.seed_))))))) else (Option.bind (F_spec_l01Next n ((S_l01Source.mk a0_s.code_ c94.2.1 c94.2.2)) ((l31.length : Int))) fun r223 => (Option.bind (F_spec_l01Next n ((S_l01Source.mk a0_s.code_ r223.2.at_ r223.2.seed_)) 4) fun r236 => (Option.bind (F_spec_l01Next n ((S_l01Source.mk a0_s.code_ r236.2.at_ r236.2.seed_)) 3) fun r249 => (Option.bind (appN l31 ([(S_Clock.mk t56 r58.1 0 0 0 r223.1 (IntKind.wrap IntKind.i64 (1 + r236.1)) ((r249.1 == 0)) r42.1 (IntKind.wrap IntKind.i64 (r42.1 + r66.1)) r74.1)]) 96) fun z275 => (F_spec_l14Draw_L1 n a0_s k0 m z275 (IntKind.wrap IntKind.i64 (i35 - 1)) r249.2.at_ r249.2.seed_))))))))))))) else (k0 l31 i35 i37 i38)) := rfl

def F_spec_l14Draw (n : Nat) (a0_s : S_l01Source) : Option ((List S_Clock) × S_l01Source) := (Option.bind (F_spec_l01Next n a0_s 5) fun r21 => (F_spec_l14Draw_L1 n a0_s (fun l31 i35 i37 i38 => (Option.bind (F_spec_l01Next n ((S_l01Source.mk a0_s.code_ i37 i38)) ((l31.length : Int))) fun r41 => (Option.bind (F_spec_l01Next n ((S_l01Source.mk a0_s.code_ r41.2.at_ r41.2.seed_)) 30) fun r49 => (bif (r49.1 == 0) then (Option.bind (F_spec_l01Next n ((S_l01Source.mk a0_s.code_ r49.2.at_ r49.2.seed_)) 2) fun r58 => (Option.bind (getI l31 r41.1) fun x66 => (some ((l31.set (r41.1).toNat ((S_Clock.mk x66.Name x66.Place x66.Period x66.RiseAt x66.FallAt x66.Source (IntKind.wrap IntKind.i64 (9 * r58.1)) x66.Invert x66.EarlyLatency x66.LateLatency x66.Uncertainty))), (S_l01Source.mk a0_s.code_ r58.2.at_ r58.2.seed_))))) else (bif (r49.1 == 1) then (Option.bind (getI l31 r41.1) fun x80 => (Option.bind (getI l31 r41.1) fun x87 => (some ((l31.set (r41.1).toNat ((S_Clock.mk x87.Name x87.Place x87.Period x87.RiseAt x80.RiseAt x87.Source x87.Divide x87.Invert x87.EarlyLatency x87.LateLatency x87.Uncertainty))), (S_l01Source.mk a0_s.code_ r49.2.at_ r49.2.seed_))))) else (bif (r49.1 == 2) then (Option.bind (getI l31 0) fun x101 => (Option.bind (getI l31 r41.1) fun x108 => (some ((l31.set (r41.1).toNat ((S_Clock.mk x101.Name x108.Place x108.Period x108.RiseAt x108.FallAt x108.Source x108.Divide x108.Invert x108.EarlyLatency x108.LateLatency x108.Uncertainty))), (S_l01Source.mk a0_s.code_ r49.2.at_ r49.2.seed_))))) else (bif (r49.1 == 3) then (Option.bind (getI l31 r41.1) fun x122 => (some ((l31.set (r41.1).toNat ((S_Clock.mk x122.Name x122.Place x122.Period x122.RiseAt x122.FallAt r41.1 x122.Divide x122.Invert x122.EarlyLatency x122.LateLatency x122.Uncertainty))), (S_l01Source.mk a0_s.code_ r49.2.at_ r49.2.seed_)))) else (bif (r49.1 == 4) then (Option.bind (getI l31 r41.1) fun x136 => (Option.bind (getI l31 r41.1) fun x143 => (some ((l31.set (r41.1).toNat ((S_Clock.mk x143.Name x143.Place x143.Period x143.RiseAt x143.FallAt x143.Source x143.Divide x143.Invert x143.EarlyLatency (IntKind.wrap IntKind.i64 (x136.EarlyLatency - 1)) x143.Uncertainty))), (S_l01Source.mk a0_s.code_ r49.2.at_ r49.2.seed_))))) else (bif (r49.1 == 5) then (Option.bind (F_spec_l01Next n ((S_l01Source.mk a0_s.code_ r49.2.at_ r49.2.seed_)) 2) fun r157 => (Option.bind (getI l31 0) fun x165 => (some ((l31.set (0 : Int).toNat ((S_Clock.mk x165.Name x165.Place (IntKind.wrap IntKind.i64 (100000 + r157.1)) x165.RiseAt x165.FallAt x165.Source x165.Divide x165.Invert x165.EarlyLatency x165.LateLatency x165.Uncertainty))), (S_l01Source.mk a0_s.code_ r157.2.at_ r157.2.seed_))))) else (bif (r49.1 == 6) then (F_spec_l14Draw_L2 n (fun l181 => (some (l181, (S_l01Source.mk a0_s.code_ r49.2.at_ r49.2.seed_)))) n l31) else (some (l31, (S_l01Source.mk a0_s.code_ r49.2.at_ r49.2.seed_))))))))))))) n (([] : List S_Clock)) (IntKind.wrap IntKind.i64 (1 + r21.1)) r21.2.at_ r21.2.seed_))
set_option maxHeartbeats 40000000 in
theorem W_spec_l14Draw {n : Nat} {a0_s : S_l01Source} {r : (List S_Clock) × S_l01Source} {w : World} {v1 : Value} {lo3 hi4 : Nat} {b0_ : Nat} (hF : F_spec_l14Draw n a0_s = some r) (hb5 : Box w b0_ [v1, .int .i64 a0_s.at_, .int .i64 a0_s.seed_] 90) (ha2 : slRep (cInt .u8) w (Iv lo3 hi4) a0_s.code_ v1) (hh6 : hi4 ≤ w.heap.size) (hh7 : b0_ < lo3 ∨ hi4 ≤ b0_) :
    Calls Tryd.prog 57 [.pointer (some ⟨b0_, 0, none⟩)].toArray w (Ret fun u w2 => ∃ v0_0, u = v0_0 ∧ ownR C_Clock w2 w.heap.size (Iv 0 0) 45 r.1 v0_0 ∧ Box w2 b0_ [v1, .int .i64 r.2.at_, .int .i64 r.2.seed_] 90 ∧ But (pB b0_) w w2) := by
  refine calls_of Tryd.func57 rfl Tryd.ntmps57 ?_
  have he0 : But (pB b0_) w w := But.refl _ w
  have := Box.lt hb5
  unfold F_spec_l14Draw at hF
  refine WC.seq ?_
  refine WC.region ?_
  refine TL.yld rfl rfl (yld_assign rfl rfl) ?_
  refine TL.done ?_
  refine NX.seq ?_
  refine WC.seq ?_
  refine WC.region ?_
  refine TL.eff rfl rfl (eff_buildSlice (c := C_Clock) (xs := ([] : List S_Clock)) (S := (Iv 0 0)) (uss := []) (out := []) rfl Tryd.underlying25 in_45 rfl rfl (fillL_all [] rfl rfl rfl) rfl rfl rfl rfl (one_rep (uss := []) (show reps _ _ _ _ _ from trivial) rfl) (fun k h => by have := h.2; omega) rfl) ?_
  rintro v8 w9 ⟨g10, hv11, hg12, hz13, hx14, hs15⟩
  have he16 : But (pB b0_) w w9 := But.ext he0 hx14
  have hb5 := Box.ext hb5 hx14
  have ha2 := slRep.old ha2 hx14 (by omega)
  have hz17 := (hx14).size
  have hlo18 : w.heap.size ≤ g10 := by rw [hg12]; exact (he0).size
  have hbd19 := bd_of hv11
  clear hv11
  refine TL.yld rfl rfl (yld_assign rfl rfl) ?_
  refine TL.done ?_
  refine NX.seq ?_
  refine WC.seq ?_
  refine WC.seq ?_
  refine WC.region ?_
  refine TL.yld rfl rfl (yld_move rfl rfl) ?_
  obtain ⟨r21, hr22, hF⟩ := bsome hF
  refine TL.eff rfl rfl (eff_call rfl gf_69 rfl (W_spec_l01Next hr22 hb5 ha2 (by omega) (by omega))) ?_
  rintro _ w23 ⟨rfl, hb25, hx24⟩
  have he26 : But (pB b0_) w w23 := But.but he16 hx24 (all_pB (Or.inl rfl))
  have ha2 := slRep.but ha2 hx24 (all_pB (by omega)) (by omega)
  have hp27 : ∀ g, v8.ownBlock = some g → g ≠ b0_ := (fun g hg => by have := hbd19 g hg; omega)
  have hs15 := ownR.butF hs15 hx24 (all_pB (fun g hg e => hp27 g hg e.symm))
  have hz28 := (hx24).size
  refine TL.yld rfl rfl (yld_add rfl rfl rfl) ?_
  refine TL.yld rfl rfl (yld_assign rfl rfl) ?_
  refine TL.done ?_
  refine NX.seq ?_
  refine WC.block ?_
  refine WC.loop (fun m41 a wl => ∃ (l31 : List S_Clock) (v32 : Value) (i35 : Int) (i37 : Int) (i38 : Int), Kn 163 [(0, .pointer (some ⟨b0_, 0, none⟩)), (3, v32), (4, .int .i64 i35)] a ∧ But (pB b0_) w wl ∧ w23.heap.size ≤ wl.heap.size ∧ Box wl b0_ [v1, .int .i64 i37, .int .i64 i38] 90 ∧ slRep (cInt .u8) wl (Iv lo3 hi4) a0_s.code_ v1 ∧ ownR C_Clock wl (g10) (Iv 0 0) 45 l31 v32 ∧ (∀ q, v32.ownBlock = some q → g10 ≤ q ∧ q < wl.heap.size) ∧ (∀ g, v32.ownBlock = some g → g ≠ b0_) ∧ F_spec_l14Draw_L1 n a0_s (fun l31 i35 i37 i38 => (Option.bind (F_spec_l01Next n ((S_l01Source.mk a0_s.code_ i37 i38)) ((l31.length : Int))) fun r41 => (Option.bind (F_spec_l01Next n ((S_l01Source.mk a0_s.code_ r41.2.at_ r41.2.seed_)) 30) fun r49 => (bif (r49.1 == 0) then (Option.bind (F_spec_l01Next n ((S_l01Source.mk a0_s.code_ r49.2.at_ r49.2.seed_)) 2) fun r58 => (Option.bind (getI l31 r41.1) fun x66 => (some ((l31.set (r41.1).toNat ((S_Clock.mk x66.Name x66.Place x66.Period x66.RiseAt x66.FallAt x66.Source (IntKind.wrap IntKind.i64 (9 * r58.1)) x66.Invert x66.EarlyLatency x66.LateLatency x66.Uncertainty))), (S_l01Source.mk a0_s.code_ r58.2.at_ r58.2.seed_))))) else (bif (r49.1 == 1) then (Option.bind (getI l31 r41.1) fun x80 => (Option.bind (getI l31 r41.1) fun x87 => (some ((l31.set (r41.1).toNat ((S_Clock.mk x87.Name x87.Place x87.Period x87.RiseAt x80.RiseAt x87.Source x87.Divide x87.Invert x87.EarlyLatency x87.LateLatency x87.Uncertainty))), (S_l01Source.mk a0_s.code_ r49.2.at_ r49.2.seed_))))) else (bif (r49.1 == 2) then (Option.bind (getI l31 0) fun x101 => (Option.bind (getI l31 r41.1) fun x108 => (some ((l31.set (r41.1).toNat ((S_Clock.mk x101.Name x108.Place x108.Period x108.RiseAt x108.FallAt x108.Source x108.Divide x108.Invert x108.EarlyLatency x108.LateLatency x108.Uncertainty))), (S_l01Source.mk a0_s.code_ r49.2.at_ r49.2.seed_))))) else (bif (r49.1 == 3) then (Option.bind (getI l31 r41.1) fun x122 => (some ((l31.set (r41.1).toNat ((S_Clock.mk x122.Name x122.Place x122.Period x122.RiseAt x122.FallAt r41.1 x122.Divide x122.Invert x122.EarlyLatency x122.LateLatency x122.Uncertainty))), (S_l01Source.mk a0_s.code_ r49.2.at_ r49.2.seed_)))) else (bif (r49.1 == 4) then (Option.bind (getI l31 r41.1) fun x136 => (Option.bind (getI l31 r41.1) fun x143 => (some ((l31.set (r41.1).toNat ((S_Clock.mk x143.Name x143.Place x143.Period x143.RiseAt x143.FallAt x143.Source x143.Divide x143.Invert x143.EarlyLatency (IntKind.wrap IntKind.i64 (x136.EarlyLatency - 1)) x143.Uncertainty))), (S_l01Source.mk a0_s.code_ r49.2.at_ r49.2.seed_))))) else (bif (r49.1 == 5) then (Option.bind (F_spec_l01Next n ((S_l01Source.mk a0_s.code_ r49.2.at_ r49.2.seed_)) 2) fun r157 => (Option.bind (getI l31 0) fun x165 => (some ((l31.set (0 : Int).toNat ((S_Clock.mk x165.Name x165.Place (IntKind.wrap IntKind.i64 (100000 + r157.1)) x165.RiseAt x165.FallAt x165.Source x165.Divide x165.Invert x165.EarlyLatency x165.LateLatency x165.Uncertainty))), (S_l01Source.mk a0_s.code_ r157.2.at_ r157.2.seed_))))) else (bif (r49.1 == 6) then (F_spec_l14Draw_L2 n (fun l181 => (some (l181, (S_l01Source.mk a0_s.code_ r49.2.at_ r49.2.seed_)))) n l31) else (some (l31, (S_l01Source.mk a0_s.code_ r49.2.at_ r49.2.seed_))))))))))))) m41 l31 i35 i37 i38 = some r) n ?_ ?_
  · intro a hK; exact ⟨(([] : List S_Clock)), v8, (IntKind.wrap IntKind.i64 (1 + r21.1)), r21.2.at_, r21.2.seed_, hK.weaken ⟨rfl, rfl, rfl, trivial⟩, he26, Nat.le_refl _, hb25, ha2, hs15, (fun g hg => by have := hbd19 g hg; omega), (fun g hg => by have := hbd19 g hg; omega), hF⟩
  · rintro m41 a w29 ⟨l31, v32, i35, i37, i38, hK, he30, hz42, hb36, hs39, hs33, hbd34, hp40, hF⟩
    revert hK; revert a; refine (?_ : WC _ _ _ _ _ _)
    cases m41 with
    | zero => rw [F_spec_l14Draw_L1_z] at hF; cases hF
    | succ m41 =>
      rw [F_spec_l14Draw_L1_s] at hF
      refine WC.seq ?_
      refine WC.seq ?_
      refine WC.region ?_
      refine TL.yld rfl rfl (yld_move rfl rfl) ?_
      refine TL.yld rfl rfl (yld_gtr rfl rfl rfl) ?_
      refine TL.done ?_
      refine NX.seq ?_
      refine WC.cond rfl ?_ ?_
      · intro hc43
        replace hF := bif_t hc43 hF
        refine WC.skip' ?_
        refine NX.seq ?_
        refine WC.seq ?_
        refine WC.block ?_
        refine WC.seq ?_
        refine WC.region ?_
        refine TL.yld rfl rfl (yld_move rfl rfl) ?_
        refine TL.yld rfl rfl (yld_len_own (c := C_Clock) rfl Tryd.underlying25 rfl hs33) ?_
        refine TL.yld rfl rfl (yld_assign rfl rfl) ?_
        refine TL.done ?_
        refine NX.seq ?_
        refine WC.seq ?_
        refine WC.region ?_
        refine TL.yld rfl rfl (yld_move rfl rfl) ?_
        obtain ⟨r44, hr45, hF⟩ := bsome hF
        refine TL.eff rfl rfl (eff_call rfl gf_69 rfl (W_spec_l01Next hr45 hb36 hs39 (by omega) (by omega))) ?_
        rintro _ w46 ⟨rfl, hb48, hx47⟩
        have he49 : But (pB b0_) w w46 := But.but he30 hx47 (all_pB (Or.inl rfl))
        have hs39 := slRep.but hs39 hx47 (all_pB (by omega)) (by omega)
        have hp50 : ∀ g, v32.ownBlock = some g → g ≠ b0_ := hp40
        have hs33 := ownR.butF hs33 hx47 (all_pB (fun g hg e => hp50 g hg e.symm))
        have hz51 := (hx47).size
        refine TL.yld rfl rfl (yld_assign rfl rfl) ?_
        refine TL.done ?_
        refine NX.seq ?_
        refine WC.seq ?_
        refine WC.region ?_
        refine TL.yld rfl rfl (yld_move rfl rfl) ?_
        obtain ⟨r52, hr53, hF⟩ := bsome hF
        refine TL.eff rfl rfl (eff_call rfl gf_78 rfl (W_spec_l01Number hr53)) ?_
        rintro _ w54 ⟨rfl, hx55⟩
        have he56 : But (pB b0_) w w54 := But.ext he49 hx55
        have hb48 := Box.ext hb48 hx55
        have hs39 := slRep.old hs39 hx55 (by omega)
        have hs33 := ownR.ext hs33 hx55
        have hz57 := (hx55).size
        obtain ⟨t58, ht59, hF⟩ := bsome hF
        refine TL.yld rfl rfl (yld_cat rfl rfl rfl ht59) ?_
        refine TL.yld rfl rfl (yld_move rfl rfl) ?_
        obtain ⟨r60, hr61, hF⟩ := bsome hF
        refine TL.eff rfl rfl (eff_call rfl gf_69 rfl (W_spec_l01Next hr61 hb48 hs39 (by omega) (by omega))) ?_
        rintro _ w62 ⟨rfl, hb64, hx63⟩
        have he65 : But (pB b0_) w w62 := But.but he56 hx63 (all_pB (Or.inl rfl))
        have hs39 := slRep.but hs39 hx63 (all_pB (by omega)) (by omega)
        have hp66 : ∀ g, v32.ownBlock = some g → g ≠ b0_ := hp40
        have hs33 := ownR.butF hs33 hx63 (all_pB (fun g hg e => hp66 g hg e.symm))
        have hz67 := (hx63).size
        refine TL.yld rfl rfl (yld_move rfl rfl) ?_
        refine TL.yld rfl rfl (yld_move rfl rfl) ?_
        refine TL.yld rfl rfl (yld_move rfl rfl) ?_
        obtain ⟨r68, hr69, hF⟩ := bsome hF
        refine TL.eff rfl rfl (eff_call rfl gf_69 rfl (W_spec_l01Next hr69 hb64 hs39 (by omega) (by omega))) ?_
        rintro _ w70 ⟨rfl, hb72, hx71⟩
        have he73 : But (pB b0_) w w70 := But.but he65 hx71 (all_pB (Or.inl rfl))
        have hs39 := slRep.but hs39 hx71 (all_pB (by omega)) (by omega)
        have hp74 : ∀ g, v32.ownBlock = some g → g ≠ b0_ := hp40
        have hs33 := ownR.butF hs33 hx71 (all_pB (fun g hg e => hp74 g hg e.symm))
        have hz75 := (hx71).size
        refine TL.yld rfl rfl (yld_add rfl rfl rfl) ?_
        refine TL.yld rfl rfl (yld_move rfl rfl) ?_
        obtain ⟨r76, hr77, hF⟩ := bsome hF
        refine TL.eff rfl rfl (eff_call rfl gf_69 rfl (W_spec_l01Next hr77 hb72 hs39 (by omega) (by omega))) ?_
        rintro _ w78 ⟨rfl, hb80, hx79⟩
        have he81 : But (pB b0_) w w78 := But.but he73 hx79 (all_pB (Or.inl rfl))
        have hs39 := slRep.but hs39 hx79 (all_pB (by omega)) (by omega)
        have hp82 : ∀ g, v32.ownBlock = some g → g ≠ b0_ := hp40
        have hs33 := ownR.butF hs33 hx79 (all_pB (fun g hg e => hp82 g hg e.symm))
        have hz83 := (hx79).size
        refine TL.yld rfl rfl (yld_build (uss := [(0, [.string t58]), (1, [.int .i64 r60.1]), (5, [.int .i64 (-1)]), (6, [.int .i64 1]), (8, [.int .i64 r44.1]), (9, [.int .i64 (IntKind.wrap IntKind.i64 (r44.1 + r68.1))]), (10, [.int .i64 r76.1])]) (out := [.string t58, .int .i64 r60.1, .int .i64 0, .int .i64 0, .int .i64 0, .int .i64 (-1), .int .i64 1, .bool false, .int .i64 r44.1, .int .i64 (IntKind.wrap IntKind.i64 (r44.1 + r68.1)), .int .i64 r76.1]) rfl rfl zn_45 pl_45 rfl rfl) ?_
        refine TL.eff rfl rfl (eff_alloc rfl zn_45) ?_
        rintro _ w85 ⟨b84, rfl, hn86⟩
        obtain ⟨hn86e, hn86s, hn86x, hb87⟩ := hn86
        have hb87 : Box w85 b84 [.string ByteArray.empty, .int .i64 0, .int .i64 0, .int .i64 0, .int .i64 0, .int .i64 0, .int .i64 0, .bool false, .int .i64 0, .int .i64 0, .int .i64 0] 45 := hb87
        have he89 : But (pB b0_) w w85 := But.ext he81 hn86x
        have hb80 := Box.ext hb80 hn86x
        have hs39 := slRep.old hs39 hn86x (by omega)
        have hs33 := ownR.ext hs33 hn86x
        have hz90 := (hn86x).size
        have hlo88 : w.heap.size ≤ b84 := by rw [hn86e]; exact (he81).size
        refine TL.eff rfl rfl (eff_store rfl rfl rfl hb87 cn_45 rfl rfl) ?_
        rintro _ w91 ⟨hu92, hb93⟩
        have he94 : But (pB b0_) w w91 := But.upd he89 hu92 (Or.inr (by omega))
        have hb80 := Box.upd hb80 hu92 (by omega)
        have hs39 := slRep.upd hs39 hu92 (by omega)
        have hs33 := ownR.upd hs33 hu92 (fun g hg => by have := hbd34 g hg; omega)
        have hz95 := (hu92).size
        have hb87 : Box w91 b84 [.string t58, .int .i64 r60.1, .int .i64 0, .int .i64 0, .int .i64 0, .int .i64 (-1), .int .i64 1, .bool false, .int .i64 r44.1, .int .i64 (IntKind.wrap IntKind.i64 (r44.1 + r68.1)), .int .i64 r76.1] 45 := hb93
        refine TL.done ?_
        refine NX.seq ?_
        refine WC.seq ?_
        refine WC.seq ?_
        refine WC.region ?_
        refine TL.yld rfl rfl (yld_move rfl rfl) ?_
        refine TL.yld rfl rfl (yld_eql rfl rfl rfl) ?_
        refine TL.yld rfl rfl (yld_move rfl rfl) ?_
        obtain ⟨c96, hb97, hF⟩ := bsome hF
        refine TL.cut 4 [(0, .pointer (some ⟨b0_, 0, none⟩)), (3, v32), (4, .int .i64 i35), (5, .int .i64 ((l31.length : Int))), (7, .pointer (some ⟨b84, 0, none⟩)), (41, .bool c96.1)] (fun w' => But (pB b0_) w91 w' ∧ Box w' b0_ [v1, .int .i64 c96.2.1, .int .i64 c96.2.2] 90) ?_ ?_
        · rcases Bool.eq_false_or_eq_true ((((l31.length : Int)) == 0)) with hg98 | hg98
          ·
            rw [hg98] at hb97; simp only [cond_true, cond_false] at hb97
            refine TL.gnu (j := 2) (t := 37) rfl rfl rfl hg98 rfl ?_
            refine TL.gnu (j := 2) (t := 37) rfl rfl rfl hg98 rfl ?_
            refine TL.gnu (j := 2) (t := 37) rfl rfl rfl hg98 rfl ?_
            obtain rfl := Option.some.inj hb97
            refine TL.yld rfl rfl (yld_pick_t rfl rfl hg98 rfl) ?_
            exact TL.nil fun a h => ⟨h.weaken ⟨rfl, rfl, rfl, rfl, rfl, rfl, trivial⟩, (But.refl _ _), hb80⟩
          ·
            rw [hg98] at hb97; simp only [cond_true, cond_false] at hb97
            replace hF := hb97
            refine TL.gy (j := 2) (t := 37) rfl rfl rfl hg98 rfl (yld_move rfl rfl) ?_
            obtain ⟨r99, hr100, hF⟩ := bsome hF
            refine TL.ge (j := 2) (t := 37) rfl rfl rfl hg98 rfl (eff_call rfl gf_69 rfl (W_spec_l01Next hr100 hb80 hs39 (by omega) (by omega))) ?_
            rintro _ w101 ⟨rfl, hb103, hx102⟩
            have he104 : But (pB b0_) w w101 := But.but he94 hx102 (all_pB (Or.inl rfl))
            have hb87 := Box.but hb87 hx102 (all_pB (by omega))
            have hs39 := slRep.but hs39 hx102 (all_pB (by omega)) (by omega)
            have hp105 : ∀ g, v32.ownBlock = some g → g ≠ b0_ := hp40
            have hs33 := ownR.butF hs33 hx102 (all_pB (fun g hg e => hp105 g hg e.symm))
            have hz106 := (hx102).size
            refine TL.gy (j := 2) (t := 37) rfl rfl rfl hg98 rfl (yld_eql rfl rfl rfl) ?_
            obtain rfl := Option.some.inj hF
            refine TL.yld rfl rfl (yld_pick_f rfl rfl hg98 rfl) ?_
            exact TL.nil fun a h => ⟨h.weaken ⟨rfl, rfl, rfl, rfl, rfl, rfl, trivial⟩, (But.but (But.refl _ _) hx102 (fun k q => Or.inl q)), hb103⟩
        rintro w107 ⟨hx108, hb109⟩
        have he110 : But (pB b0_) w w107 := But.but he94 hx108 (all_pB (Or.inl rfl))
        have hb87 := Box.but hb87 hx108 (all_pB (by omega))
        have hs39 := slRep.but hs39 hx108 (all_pB (by omega)) (by omega)
        have hp111 : ∀ g, v32.ownBlock = some g → g ≠ b0_ := hp40
        have hs33 := ownR.butF hs33 hx108 (all_pB (fun g hg e => hp111 g hg e.symm))
        have hz112 := (hx108).size
        refine TL.done ?_
        refine NX.seq ?_
        refine WC.cond rfl ?_ ?_
        · intro hc113
          replace hF := bif_t hc113 hF
          refine WC.seq ?_
          refine WC.region ?_
          refine TL.eff rfl rfl (eff_buildSlice (c := (cInt .i64)) (xs := [10, 12, 20, 30, 100, 7, 2]) (S := (Iv 0 0)) (uss := [(0, [.int .i64 10]), (1, [.int .i64 12]), (2, [.int .i64 20]), (3, [.int .i64 30]), (4, [.int .i64 100]), (5, [.int .i64 7]), (6, [.int .i64 2])]) (out := [.int .i64 10, .int .i64 12, .int .i64 20, .int .i64 30, .int .i64 100, .int .i64 7, .int .i64 2]) rfl Tryd.underlying46 in_2 rfl rfl (fillL_all [[.int .i64 10], [.int .i64 12], [.int .i64 20], [.int .i64 30], [.int .i64 100], [.int .i64 7], [.int .i64 2]] rfl rfl rfl) rfl rfl rfl rfl (one_rep (uss := [[.int .i64 10], [.int .i64 12], [.int .i64 20], [.int .i64 30], [.int .i64 100], [.int .i64 7], [.int .i64 2]]) (show reps _ _ _ _ _ from ⟨rfl, rfl, rfl, rfl, rfl, rfl, rfl, trivial⟩) rfl) (fun k h => by have := h.2; omega) rfl) ?_
          rintro v114 w115 ⟨g116, hv117, hg118, hz119, hx120, hs121⟩
          have he122 : But (pB b0_) w w115 := But.ext he110 hx120
          have hb109 := Box.ext hb109 hx120
          have hb87 := Box.ext hb87 hx120
          have hs39 := slRep.old hs39 hx120 (by omega)
          have hs33 := ownR.ext hs33 hx120
          have hz123 := (hx120).size
          have hlo124 : w.heap.size ≤ g116 := by rw [hg118]; exact (he110).size
          have hbd125 := bd_of hv117
          clear hv117
          refine TL.yld rfl rfl (yld_move rfl rfl) ?_
          obtain ⟨r127, hr128, hF⟩ := bsome hF
          refine TL.eff rfl rfl (eff_call rfl gf_69 rfl (W_spec_l01Next hr128 hb109 hs39 (by omega) (by omega))) ?_
          rintro _ w129 ⟨rfl, hb131, hx130⟩
          have he132 : But (pB b0_) w w129 := But.but he122 hx130 (all_pB (Or.inl rfl))
          have hb87 := Box.but hb87 hx130 (all_pB (by omega))
          have hs39 := slRep.but hs39 hx130 (all_pB (by omega)) (by omega)
          have hp133 : ∀ g, v32.ownBlock = some g → g ≠ b0_ := hp40
          have hs33 := ownR.butF hs33 hx130 (all_pB (fun g hg e => hp133 g hg e.symm))
          have hp134 : ∀ g, v114.ownBlock = some g → g ≠ b0_ := (fun g hg => by have := hbd125 g hg; omega)
          have hs121 := ownR.butF hs121 hx130 (all_pB (fun g hg e => hp134 g hg e.symm))
          have hz135 := (hx130).size
          obtain ⟨x136, hy137, hF⟩ := bsome hF
          refine TL.ye rfl rfl (ye_index_own (c := (cInt .i64)) rfl Tryd.underlying46 cn_2 rfl rfl hs121 hy137) ?_
          rintro _ ⟨g138, us140, rfl, hg139, hr141, hcl142⟩
          have hr141r := hr141
          obtain rfl := hr141
          refine TL.yld rfl rfl (yld_load1 0 rfl ag_2 rfl hcl142 rfl rfl) ?_
          refine TL.yld rfl rfl (yld_fieldAddr rfl fo_45_2 rfl) ?_
          refine TL.eff rfl rfl (eff_store rfl rfl rfl hb87 cn_2 rfl rfl) ?_
          rintro _ w143 ⟨hu144, hb145⟩
          have he146 : But (pB b0_) w w143 := But.upd he132 hu144 (Or.inr (by omega))
          have hb131 := Box.upd hb131 hu144 (by omega)
          have hs39 := slRep.upd hs39 hu144 (by omega)
          have hs33 := ownR.upd hs33 hu144 (fun g hg => by have := hbd34 g hg; omega)
          have hs121 := ownR.upd hs121 hu144 (fun g hg => by have := hbd125 g hg; omega)
          have hz147 := (hu144).size
          have hb87 : Box w143 b84 [.string t58, .int .i64 r60.1, .int .i64 x136, .int .i64 0, .int .i64 0, .int .i64 (-1), .int .i64 1, .bool false, .int .i64 r44.1, .int .i64 (IntKind.wrap IntKind.i64 (r44.1 + r68.1)), .int .i64 r76.1] 45 := hb145
          refine TL.done ?_
          refine NX.seq ?_
          refine WC.seq ?_
          refine WC.region ?_
          refine TL.yld rfl rfl (yld_move rfl rfl) ?_
          refine TL.yld rfl rfl (yld_fieldAddr rfl fo_45_2 rfl) ?_
          refine TL.yld rfl rfl (yld_load1 2 rfl ag_2 rfl (Box.cells hb87) rfl rfl) ?_
          obtain ⟨r148, hr149, hF⟩ := bsome hF
          refine TL.eff rfl rfl (eff_call rfl gf_69 rfl (W_spec_l01Next hr149 hb131 hs39 (by omega) (by omega))) ?_
          rintro _ w150 ⟨rfl, hb152, hx151⟩
          have he153 : But (pB b0_) w w150 := But.but he146 hx151 (all_pB (Or.inl rfl))
          have hb87 := Box.but hb87 hx151 (all_pB (by omega))
          have hs39 := slRep.but hs39 hx151 (all_pB (by omega)) (by omega)
          have hp154 : ∀ g, v32.ownBlock = some g → g ≠ b0_ := hp40
          have hs33 := ownR.butF hs33 hx151 (all_pB (fun g hg e => hp154 g hg e.symm))
          have hp155 : ∀ g, v114.ownBlock = some g → g ≠ b0_ := (fun g hg => by have := hbd125 g hg; omega)
          have hs121 := ownR.butF hs121 hx151 (all_pB (fun g hg e => hp155 g hg e.symm))
          have hz156 := (hx151).size
          refine TL.yld rfl rfl (yld_fieldAddr rfl fo_45_3 rfl) ?_
          refine TL.eff rfl rfl (eff_store rfl rfl rfl hb87 cn_2 rfl rfl) ?_
          rintro _ w157 ⟨hu158, hb159⟩
          have he160 : But (pB b0_) w w157 := But.upd he153 hu158 (Or.inr (by omega))
          have hb152 := Box.upd hb152 hu158 (by omega)
          have hs39 := slRep.upd hs39 hu158 (by omega)
          have hs33 := ownR.upd hs33 hu158 (fun g hg => by have := hbd34 g hg; omega)
          have hs121 := ownR.upd hs121 hu158 (fun g hg => by have := hbd125 g hg; omega)
          have hz161 := (hu158).size
          have hb87 : Box w157 b84 [.string t58, .int .i64 r60.1, .int .i64 x136, .int .i64 r148.1, .int .i64 0, .int .i64 (-1), .int .i64 1, .bool false, .int .i64 r44.1, .int .i64 (IntKind.wrap IntKind.i64 (r44.1 + r68.1)), .int .i64 r76.1] 45 := hb159
          refine TL.done ?_
          refine NX.seq ?_
          obtain ⟨r162, hr163, hF⟩ := bsome hF
          obtain ⟨hn171, hF⟩ := nzero hF
          refine WC.heldG (p := (pB b0_)) 11 Tryd.hm fun w177 hx178 => ?_
          have he179 : But (pB b0_) w w177 := But.ext he160 hx178
          have hb152 := Box.ext hb152 hx178
          have hb87 := Box.ext hb87 hx178
          have hs39 := slRep.old hs39 hx178 (by omega)
          have hs33 := ownR.ext hs33 hx178
          have hs121 := ownR.ext hs121 hx178
          have hz180 := (hx178).size
          refine HLG.yld 0 (by kernel_rfl) rfl (by kernel_rfl) rfl rfl (fun wx hbx => (yld_fieldAddr rfl fo_45_3 rfl)) ?_
          refine HLG.yld 1 (by kernel_rfl) rfl (by kernel_rfl) rfl rfl (fun wx hbx => (have hb87 := Box.but hb87 hbx (all_pB (by omega)); (yld_load1 3 rfl ag_2 rfl (Box.cells hb87) rfl rfl))) ?_
          refine HLG.yld 2 (by kernel_rfl) rfl (by kernel_rfl) rfl rfl (fun wx hbx => (yld_add rfl rfl rfl)) ?_
          refine HLG.yld 3 (by kernel_rfl) rfl (by kernel_rfl) rfl rfl (fun wx hbx => (yld_move rfl rfl)) ?_
          refine HLG.yld 4 (by kernel_rfl) rfl (by kernel_rfl) rfl rfl (fun wx hbx => (yld_fieldAddr rfl fo_45_2 rfl)) ?_
          refine HLG.yld 5 (by kernel_rfl) rfl (by kernel_rfl) rfl rfl (fun wx hbx => (have hb87 := Box.but hb87 hbx (all_pB (by omega)); (yld_load1 2 rfl ag_2 rfl (Box.cells hb87) rfl rfl))) ?_
          refine HLG.yld 6 (by kernel_rfl) rfl (by kernel_rfl) rfl rfl (fun wx hbx => (yld_sub rfl rfl rfl)) ?_
          refine HLG.yld 9 (by kernel_rfl) rfl (by kernel_rfl) rfl rfl (fun wx hbx => (yld_fieldAddr rfl fo_45_2 rfl)) ?_
          refine HLG.yld 10 (by kernel_rfl) rfl (by kernel_rfl) rfl rfl (fun wx hbx => (have hb87 := Box.but hb87 hbx (all_pB (by omega)); (yld_load1 2 rfl ag_2 rfl (Box.cells hb87) rfl rfl))) ?_
          refine HLG.eff 7 rfl rfl (by kernel_rfl) rfl rfl (eff_call rfl gf_69 rfl (W_spec_l01Next hr163 hb152 hs39 (by omega) (by omega))) ?_
          rintro _ w181 ⟨rfl, hb183, hx182⟩
          have he184 : But (pB b0_) w w181 := But.but he179 hx182 (all_pB (Or.inl rfl))
          have hb87 := Box.but hb87 hx182 (all_pB (by omega))
          have hs39 := slRep.but hs39 hx182 (all_pB (by omega)) (by omega)
          have hp185 : ∀ g, v32.ownBlock = some g → g ≠ b0_ := hp40
          have hs33 := ownR.butF hs33 hx182 (all_pB (fun g hg e => hp185 g hg e.symm))
          have hp186 : ∀ g, v114.ownBlock = some g → g ≠ b0_ := (fun g hg => by have := hbd125 g hg; omega)
          have hs121 := ownR.butF hs121 hx182 (all_pB (fun g hg e => hp186 g hg e.symm))
          have hz187 := (hx182).size
          have hbs188 : But (pB b0_) w177 w181 := (But.but (But.refl _ w177) hx182 (all_pB (Or.inl rfl)))
          refine ⟨hbs188, ?_⟩
          refine HLG.yld 8 (by kernel_rfl) rfl (by kernel_rfl) rfl rfl (fun wx hbx => (yld_add rfl rfl rfl)) ?_
          refine HLG.tail rfl (by kernel_rfl) rfl ?_
          refine TL.yld rfl rfl (yld_rem rfl rfl rfl hn171) ?_
          refine TL.yld rfl rfl (yld_fieldAddr rfl fo_45_4 rfl) ?_
          refine TL.eff rfl rfl (eff_store rfl rfl rfl hb87 cn_2 rfl rfl) ?_
          rintro _ w189 ⟨hu190, hb191⟩
          have he192 : But (pB b0_) w w189 := But.upd he184 hu190 (Or.inr (by omega))
          have hb183 := Box.upd hb183 hu190 (by omega)
          have hs39 := slRep.upd hs39 hu190 (by omega)
          have hs33 := ownR.upd hs33 hu190 (fun g hg => by have := hbd34 g hg; omega)
          have hs121 := ownR.upd hs121 hu190 (fun g hg => by have := hbd125 g hg; omega)
          have hz193 := (hu190).size
          have hb87 : Box w189 b84 [.string t58, .int .i64 r60.1, .int .i64 x136, .int .i64 r148.1, .int .i64 (Int.tmod (IntKind.wrap IntKind.i64 ((IntKind.wrap IntKind.i64 (r148.1 + 1)) + r162.1)) x136), .int .i64 (-1), .int .i64 1, .bool false, .int .i64 r44.1, .int .i64 (IntKind.wrap IntKind.i64 (r44.1 + r68.1)), .int .i64 r76.1] 45 := hb191
          refine TL.noPan (l := []) ?_
          refine NX.seq ?_
          refine WC.region ?_
          refine TL.yld rfl rfl (yld_move rfl rfl) ?_
          refine TL.yld rfl rfl (yld_loadN (us := [.string t58, .int .i64 r60.1, .int .i64 x136, .int .i64 r148.1, .int .i64 (Int.tmod (IntKind.wrap IntKind.i64 ((IntKind.wrap IntKind.i64 (r148.1 + 1)) + r162.1)) x136), .int .i64 (-1), .int .i64 1, .bool false, .int .i64 r44.1, .int .i64 (IntKind.wrap IntKind.i64 (r44.1 + r68.1)), .int .i64 r76.1]) rfl ag_45 rfl (Box.cells hb87) cn_45) ?_
          refine TL.eff rfl rfl (eff_buildSlice (c := C_Clock) (xs := [(S_Clock.mk t58 r60.1 x136 r148.1 (Int.tmod (IntKind.wrap IntKind.i64 ((IntKind.wrap IntKind.i64 (r148.1 + 1)) + r162.1)) x136) (-1) 1 false r44.1 (IntKind.wrap IntKind.i64 (r44.1 + r68.1)) r76.1)]) (S := (Iv 0 0)) (uss := [(0, [.string t58, .int .i64 r60.1, .int .i64 x136, .int .i64 r148.1, .int .i64 (Int.tmod (IntKind.wrap IntKind.i64 ((IntKind.wrap IntKind.i64 (r148.1 + 1)) + r162.1)) x136), .int .i64 (-1), .int .i64 1, .bool false, .int .i64 r44.1, .int .i64 (IntKind.wrap IntKind.i64 (r44.1 + r68.1)), .int .i64 r76.1])]) (out := [.string t58, .int .i64 r60.1, .int .i64 x136, .int .i64 r148.1, .int .i64 (Int.tmod (IntKind.wrap IntKind.i64 ((IntKind.wrap IntKind.i64 (r148.1 + 1)) + r162.1)) x136), .int .i64 (-1), .int .i64 1, .bool false, .int .i64 r44.1, .int .i64 (IntKind.wrap IntKind.i64 (r44.1 + r68.1)), .int .i64 r76.1]) rfl Tryd.underlying25 in_45 rfl rfl (fillL_all [[.string t58, .int .i64 r60.1, .int .i64 x136, .int .i64 r148.1, .int .i64 (Int.tmod (IntKind.wrap IntKind.i64 ((IntKind.wrap IntKind.i64 (r148.1 + 1)) + r162.1)) x136), .int .i64 (-1), .int .i64 1, .bool false, .int .i64 r44.1, .int .i64 (IntKind.wrap IntKind.i64 (r44.1 + r68.1)), .int .i64 r76.1]] rfl rfl rfl) rfl rfl rfl rfl (one_rep (uss := [[.string t58, .int .i64 r60.1, .int .i64 x136, .int .i64 r148.1, .int .i64 (Int.tmod (IntKind.wrap IntKind.i64 ((IntKind.wrap IntKind.i64 (r148.1 + 1)) + r162.1)) x136), .int .i64 (-1), .int .i64 1, .bool false, .int .i64 r44.1, .int .i64 (IntKind.wrap IntKind.i64 (r44.1 + r68.1)), .int .i64 r76.1]]) (show reps _ _ _ _ _ from ⟨C_Clock_mk, trivial⟩) rfl) (fun k h => by have := h.2; omega) rfl) ?_
          rintro v194 w195 ⟨g196, hv197, hg198, hz199, hx200, hs201⟩
          have he202 : But (pB b0_) w w195 := But.ext he192 hx200
          have hb183 := Box.ext hb183 hx200
          have hb87 := Box.ext hb87 hx200
          have hs39 := slRep.old hs39 hx200 (by omega)
          have hs33 := ownR.ext hs33 hx200
          have hs121 := ownR.ext hs121 hx200
          have hz203 := (hx200).size
          have hlo204 : w.heap.size ≤ g196 := by rw [hg198]; exact (he192).size
          have hbd205 := bd_of hv197
          clear hv197
          obtain ⟨z207, ha208, hF⟩ := bsome hF
          refine TL.eff rfl rfl (eff_appendF (c := C_Clock) rfl Tryd.underlying25 in_45 rfl rfl rfl rfl rfl hs33 (by omega) (ownR.slf hs201 (Nat.le_refl _) (Nat.le_refl _)) ha208) ?_
          rintro v209 w210 ⟨hs211, hgr212⟩
          have he214 : But (pB b0_) w w210 := But.grow he202 hgr212 (fun g hg => (Or.inr (by have := hbd34 g hg; omega)))
          have hp215 : ∀ g, v209.ownBlock = some g → g ≠ b0_ := Grew.sepP (p := fun g => g ≠ b0_) hgr212 hp40 (fun g hg => by omega)
          have hb183 := Grew.box hgr212 hb183 hp40
          have hp216 : ∀ g, v209.ownBlock = some g → g ≠ b84 := Grew.sepP (p := fun g => g ≠ b84) hgr212 (fun g hg => by have := hbd34 g hg; omega) (fun g hg => by omega)
          have hb87 := Grew.box hgr212 hb87 (fun g hg => by have := hbd34 g hg; omega)
          have hp217 : ∀ g, v209.ownBlock = some g → g < lo3 ∨ hi4 ≤ g := Grew.sepP (p := fun g => g < lo3 ∨ hi4 ≤ g) hgr212 (fun g hg => by have := hbd34 g hg; omega) (fun g hg => by omega)
          have hs39 := Grew.slr hgr212 hs39 (fun g hg => by have := hbd34 g hg; omega) (by omega)
          have hp218 : ∀ g q, v32.ownBlock = some g → v114.ownBlock = some q → g ≠ q := (fun g q hg hq => by have := hbd34 g hg; have := hbd125 q hq; omega)
          have hp219 : ∀ g q, v209.ownBlock = some g → v114.ownBlock = some q → g ≠ q := fun g q hg hq => Grew.sepP (p := fun g => ∀ q, v114.ownBlock = some q → g ≠ q) hgr212 (fun g hg q hq => (hp218) g q hg hq) (fun g hg q hq => by have := hbd125 q hq; omega) g hg q hq
          have hs121 := Grew.ownF hgr212 hs121 hp218
          have hp220 : ∀ g q, v32.ownBlock = some g → v194.ownBlock = some q → g ≠ q := (fun g q hg hq => by have := hbd34 g hg; have := hbd205 q hq; omega)
          have hp221 : ∀ g q, v209.ownBlock = some g → v194.ownBlock = some q → g ≠ q := fun g q hg hq => Grew.sepP (p := fun g => ∀ q, v194.ownBlock = some q → g ≠ q) hgr212 (fun g hg q hq => (hp220) g q hg hq) (fun g hg q hq => by have := hbd205 q hq; omega) g hg q hq
          have hs201 := Grew.ownF hgr212 hs201 hp220
          have hz222 := (hgr212).1.size
          have hbd223 : ∀ g, v209.ownBlock = some g → g10 ≤ g ∧ g < w210.heap.size := Grew.bd hgr212 hs211 (fun g hg => ⟨by have := hbd34 g hg; omega, (hbd34 g hg).2⟩) (by omega) (by omega)
          refine TL.yld rfl rfl (yld_assign rfl rfl) ?_
          refine TL.done ?_
          refine NX.blk_n ?_
          refine NX.seq ?_
          refine WC.region ?_
          refine TL.yld rfl rfl (yld_move rfl rfl) ?_
          refine TL.yld rfl rfl (yld_sub rfl rfl rfl) ?_
          refine TL.yld rfl rfl (yld_assign rfl rfl) ?_
          refine TL.done ?_
          refine NX.then_n ?_
          intro a hK; exact ⟨m41, Nat.lt_succ_self m41, z207, v209, (IntKind.wrap IntKind.i64 (i35 - 1)), r162.2.at_, r162.2.seed_, hK.weaken ⟨rfl, rfl, rfl, trivial⟩, he214, (by omega), hb183, hs39, hs211, (fun g hg => by have := hbd223 g hg; omega), hp215, hF⟩
        · intro hc224
          replace hF := bif_f hc224 hF
          refine WC.seq ?_
          refine WC.region ?_
          refine TL.yld rfl rfl (yld_move rfl rfl) ?_
          refine TL.yld rfl rfl (yld_move rfl rfl) ?_
          obtain ⟨r225, hr226, hF⟩ := bsome hF
          refine TL.eff rfl rfl (eff_call rfl gf_69 rfl (W_spec_l01Next hr226 hb109 hs39 (by omega) (by omega))) ?_
          rintro _ w227 ⟨rfl, hb229, hx228⟩
          have he230 : But (pB b0_) w w227 := But.but he110 hx228 (all_pB (Or.inl rfl))
          have hb87 := Box.but hb87 hx228 (all_pB (by omega))
          have hs39 := slRep.but hs39 hx228 (all_pB (by omega)) (by omega)
          have hp231 : ∀ g, v32.ownBlock = some g → g ≠ b0_ := hp40
          have hs33 := ownR.butF hs33 hx228 (all_pB (fun g hg e => hp231 g hg e.symm))
          have hz232 := (hx228).size
          refine TL.yld rfl rfl (yld_fieldAddr rfl fo_45_5 rfl) ?_
          refine TL.eff rfl rfl (eff_store rfl rfl rfl hb87 cn_2 rfl rfl) ?_
          rintro _ w233 ⟨hu234, hb235⟩
          have he236 : But (pB b0_) w w233 := But.upd he230 hu234 (Or.inr (by omega))
          have hb229 := Box.upd hb229 hu234 (by omega)
          have hs39 := slRep.upd hs39 hu234 (by omega)
          have hs33 := ownR.upd hs33 hu234 (fun g hg => by have := hbd34 g hg; omega)
          have hz237 := (hu234).size
          have hb87 : Box w233 b84 [.string t58, .int .i64 r60.1, .int .i64 0, .int .i64 0, .int .i64 0, .int .i64 r225.1, .int .i64 1, .bool false, .int .i64 r44.1, .int .i64 (IntKind.wrap IntKind.i64 (r44.1 + r68.1)), .int .i64 r76.1] 45 := hb235
          refine TL.done ?_
          refine NX.seq ?_
          refine WC.seq ?_
          refine WC.region ?_
          refine TL.yld rfl rfl (yld_move rfl rfl) ?_
          obtain ⟨r238, hr239, hF⟩ := bsome hF
          refine TL.eff rfl rfl (eff_call rfl gf_69 rfl (W_spec_l01Next hr239 hb229 hs39 (by omega) (by omega))) ?_
          rintro _ w240 ⟨rfl, hb242, hx241⟩
          have he243 : But (pB b0_) w w240 := But.but he236 hx241 (all_pB (Or.inl rfl))
          have hb87 := Box.but hb87 hx241 (all_pB (by omega))
          have hs39 := slRep.but hs39 hx241 (all_pB (by omega)) (by omega)
          have hp244 : ∀ g, v32.ownBlock = some g → g ≠ b0_ := hp40
          have hs33 := ownR.butF hs33 hx241 (all_pB (fun g hg e => hp244 g hg e.symm))
          have hz245 := (hx241).size
          refine TL.yld rfl rfl (yld_add rfl rfl rfl) ?_
          refine TL.yld rfl rfl (yld_fieldAddr rfl fo_45_6 rfl) ?_
          refine TL.eff rfl rfl (eff_store rfl rfl rfl hb87 cn_2 rfl rfl) ?_
          rintro _ w246 ⟨hu247, hb248⟩
          have he249 : But (pB b0_) w w246 := But.upd he243 hu247 (Or.inr (by omega))
          have hb242 := Box.upd hb242 hu247 (by omega)
          have hs39 := slRep.upd hs39 hu247 (by omega)
          have hs33 := ownR.upd hs33 hu247 (fun g hg => by have := hbd34 g hg; omega)
          have hz250 := (hu247).size
          have hb87 : Box w246 b84 [.string t58, .int .i64 r60.1, .int .i64 0, .int .i64 0, .int .i64 0, .int .i64 r225.1, .int .i64 (IntKind.wrap IntKind.i64 (1 + r238.1)), .bool false, .int .i64 r44.1, .int .i64 (IntKind.wrap IntKind.i64 (r44.1 + r68.1)), .int .i64 r76.1] 45 := hb248
          refine TL.done ?_
          refine NX.seq ?_
          refine WC.region ?_
          refine TL.yld rfl rfl (yld_move rfl rfl) ?_
          obtain ⟨r251, hr252, hF⟩ := bsome hF
          refine TL.eff rfl rfl (eff_call rfl gf_69 rfl (W_spec_l01Next hr252 hb242 hs39 (by omega) (by omega))) ?_
          rintro _ w253 ⟨rfl, hb255, hx254⟩
          have he256 : But (pB b0_) w w253 := But.but he249 hx254 (all_pB (Or.inl rfl))
          have hb87 := Box.but hb87 hx254 (all_pB (by omega))
          have hs39 := slRep.but hs39 hx254 (all_pB (by omega)) (by omega)
          have hp257 : ∀ g, v32.ownBlock = some g → g ≠ b0_ := hp40
          have hs33 := ownR.butF hs33 hx254 (all_pB (fun g hg e => hp257 g hg e.symm))
          have hz258 := (hx254).size
          refine TL.yld rfl rfl (yld_eql rfl rfl rfl) ?_
          refine TL.yld rfl rfl (yld_fieldAddr rfl fo_45_7 rfl) ?_
          refine TL.eff rfl rfl (eff_store rfl rfl rfl hb87 cn_4 rfl rfl) ?_
          rintro _ w259 ⟨hu260, hb261⟩
          have he262 : But (pB b0_) w w259 := But.upd he256 hu260 (Or.inr (by omega))
          have hb255 := Box.upd hb255 hu260 (by omega)
          have hs39 := slRep.upd hs39 hu260 (by omega)
          have hs33 := ownR.upd hs33 hu260 (fun g hg => by have := hbd34 g hg; omega)
          have hz263 := (hu260).size
          have hb87 : Box w259 b84 [.string t58, .int .i64 r60.1, .int .i64 0, .int .i64 0, .int .i64 0, .int .i64 r225.1, .int .i64 (IntKind.wrap IntKind.i64 (1 + r238.1)), .bool ((r251.1 == 0)), .int .i64 r44.1, .int .i64 (IntKind.wrap IntKind.i64 (r44.1 + r68.1)), .int .i64 r76.1] 45 := hb261
          refine TL.done ?_
          refine NX.seq ?_
          refine WC.region ?_
          refine TL.yld rfl rfl (yld_move rfl rfl) ?_
          refine TL.yld rfl rfl (yld_loadN (us := [.string t58, .int .i64 r60.1, .int .i64 0, .int .i64 0, .int .i64 0, .int .i64 r225.1, .int .i64 (IntKind.wrap IntKind.i64 (1 + r238.1)), .bool ((r251.1 == 0)), .int .i64 r44.1, .int .i64 (IntKind.wrap IntKind.i64 (r44.1 + r68.1)), .int .i64 r76.1]) rfl ag_45 rfl (Box.cells hb87) cn_45) ?_
          refine TL.eff rfl rfl (eff_buildSlice (c := C_Clock) (xs := [(S_Clock.mk t58 r60.1 0 0 0 r225.1 (IntKind.wrap IntKind.i64 (1 + r238.1)) ((r251.1 == 0)) r44.1 (IntKind.wrap IntKind.i64 (r44.1 + r68.1)) r76.1)]) (S := (Iv 0 0)) (uss := [(0, [.string t58, .int .i64 r60.1, .int .i64 0, .int .i64 0, .int .i64 0, .int .i64 r225.1, .int .i64 (IntKind.wrap IntKind.i64 (1 + r238.1)), .bool ((r251.1 == 0)), .int .i64 r44.1, .int .i64 (IntKind.wrap IntKind.i64 (r44.1 + r68.1)), .int .i64 r76.1])]) (out := [.string t58, .int .i64 r60.1, .int .i64 0, .int .i64 0, .int .i64 0, .int .i64 r225.1, .int .i64 (IntKind.wrap IntKind.i64 (1 + r238.1)), .bool ((r251.1 == 0)), .int .i64 r44.1, .int .i64 (IntKind.wrap IntKind.i64 (r44.1 + r68.1)), .int .i64 r76.1]) rfl Tryd.underlying25 in_45 rfl rfl (fillL_all [[.string t58, .int .i64 r60.1, .int .i64 0, .int .i64 0, .int .i64 0, .int .i64 r225.1, .int .i64 (IntKind.wrap IntKind.i64 (1 + r238.1)), .bool ((r251.1 == 0)), .int .i64 r44.1, .int .i64 (IntKind.wrap IntKind.i64 (r44.1 + r68.1)), .int .i64 r76.1]] rfl rfl rfl) rfl rfl rfl rfl (one_rep (uss := [[.string t58, .int .i64 r60.1, .int .i64 0, .int .i64 0, .int .i64 0, .int .i64 r225.1, .int .i64 (IntKind.wrap IntKind.i64 (1 + r238.1)), .bool ((r251.1 == 0)), .int .i64 r44.1, .int .i64 (IntKind.wrap IntKind.i64 (r44.1 + r68.1)), .int .i64 r76.1]]) (show reps _ _ _ _ _ from ⟨C_Clock_mk, trivial⟩) rfl) (fun k h => by have := h.2; omega) rfl) ?_
          rintro v264 w265 ⟨g266, hv267, hg268, hz269, hx270, hs271⟩
          have he272 : But (pB b0_) w w265 := But.ext he262 hx270
          have hb255 := Box.ext hb255 hx270
          have hb87 := Box.ext hb87 hx270
          have hs39 := slRep.old hs39 hx270 (by omega)
          have hs33 := ownR.ext hs33 hx270
          have hz273 := (hx270).size
          have hlo274 : w.heap.size ≤ g266 := by rw [hg268]; exact (he262).size
          have hbd275 := bd_of hv267
          clear hv267
          obtain ⟨z277, ha278, hF⟩ := bsome hF
          refine TL.eff rfl rfl (eff_appendF (c := C_Clock) rfl Tryd.underlying25 in_45 rfl rfl rfl rfl rfl hs33 (by omega) (ownR.slf hs271 (Nat.le_refl _) (Nat.le_refl _)) ha278) ?_
          rintro v279 w280 ⟨hs281, hgr282⟩
          have he284 : But (pB b0_) w w280 := But.grow he272 hgr282 (fun g hg => (Or.inr (by have := hbd34 g hg; omega)))
          have hp285 : ∀ g, v279.ownBlock = some g → g ≠ b0_ := Grew.sepP (p := fun g => g ≠ b0_) hgr282 hp40 (fun g hg => by omega)
          have hb255 := Grew.box hgr282 hb255 hp40
          have hp286 : ∀ g, v279.ownBlock = some g → g ≠ b84 := Grew.sepP (p := fun g => g ≠ b84) hgr282 (fun g hg => by have := hbd34 g hg; omega) (fun g hg => by omega)
          have hb87 := Grew.box hgr282 hb87 (fun g hg => by have := hbd34 g hg; omega)
          have hp287 : ∀ g, v279.ownBlock = some g → g < lo3 ∨ hi4 ≤ g := Grew.sepP (p := fun g => g < lo3 ∨ hi4 ≤ g) hgr282 (fun g hg => by have := hbd34 g hg; omega) (fun g hg => by omega)
          have hs39 := Grew.slr hgr282 hs39 (fun g hg => by have := hbd34 g hg; omega) (by omega)
          have hp288 : ∀ g q, v32.ownBlock = some g → v264.ownBlock = some q → g ≠ q := (fun g q hg hq => by have := hbd34 g hg; have := hbd275 q hq; omega)
          have hp289 : ∀ g q, v279.ownBlock = some g → v264.ownBlock = some q → g ≠ q := fun g q hg hq => Grew.sepP (p := fun g => ∀ q, v264.ownBlock = some q → g ≠ q) hgr282 (fun g hg q hq => (hp288) g q hg hq) (fun g hg q hq => by have := hbd275 q hq; omega) g hg q hq
          have hs271 := Grew.ownF hgr282 hs271 hp288
          have hz290 := (hgr282).1.size
          have hbd291 : ∀ g, v279.ownBlock = some g → g10 ≤ g ∧ g < w280.heap.size := Grew.bd hgr282 hs281 (fun g hg => ⟨by have := hbd34 g hg; omega, (hbd34 g hg).2⟩) (by omega) (by omega)
          refine TL.yld rfl rfl (yld_assign rfl rfl) ?_
          refine TL.done ?_
          refine NX.blk_n ?_
          refine NX.seq ?_
          refine WC.region ?_
          refine TL.yld rfl rfl (yld_move rfl rfl) ?_
          refine TL.yld rfl rfl (yld_sub rfl rfl rfl) ?_
          refine TL.yld rfl rfl (yld_assign rfl rfl) ?_
          refine TL.done ?_
          refine NX.then_n ?_
          intro a hK; exact ⟨m41, Nat.lt_succ_self m41, z277, v279, (IntKind.wrap IntKind.i64 (i35 - 1)), r251.2.at_, r251.2.seed_, hK.weaken ⟨rfl, rfl, rfl, trivial⟩, he284, (by omega), hb255, hs39, hs281, (fun g hg => by have := hbd291 g hg; omega), hp285, hF⟩
      · intro hc292
        replace hF := bif_f hc292 hF
        refine WC.exit' ?_
        refine NX.then_e ?_
        refine NX.then_e ?_
        refine NX.blk_hit ?_
        refine NX.seq ?_
        refine WC.seq ?_
        refine WC.region ?_
        refine TL.yld rfl rfl (yld_move rfl rfl) ?_
        refine TL.yld rfl rfl (yld_move rfl rfl) ?_
        refine TL.yld rfl rfl (yld_len_own (c := C_Clock) rfl Tryd.underlying25 rfl hs33) ?_
        obtain ⟨r293, hr294, hF⟩ := bsome hF
        refine TL.eff rfl rfl (eff_call rfl gf_69 rfl (W_spec_l01Next hr294 hb36 hs39 (by omega) (by omega))) ?_
        rintro _ w295 ⟨rfl, hb297, hx296⟩
        have he298 : But (pB b0_) w w295 := But.but he30 hx296 (all_pB (Or.inl rfl))
        have hs39 := slRep.but hs39 hx296 (all_pB (by omega)) (by omega)
        have hp299 : ∀ g, v32.ownBlock = some g → g ≠ b0_ := hp40
        have hs33 := ownR.butF hs33 hx296 (all_pB (fun g hg e => hp299 g hg e.symm))
        have hz300 := (hx296).size
        refine TL.yld rfl rfl (yld_assign rfl rfl) ?_
        refine TL.done ?_
        refine NX.seq ?_
        refine WC.seq ?_
        refine WC.seq ?_
        refine WC.region ?_
        refine TL.yld rfl rfl (yld_move rfl rfl) ?_
        obtain ⟨r301, hr302, hF⟩ := bsome hF
        refine TL.eff rfl rfl (eff_call rfl gf_69 rfl (W_spec_l01Next hr302 hb297 hs39 (by omega) (by omega))) ?_
        rintro _ w303 ⟨rfl, hb305, hx304⟩
        have he306 : But (pB b0_) w w303 := But.but he298 hx304 (all_pB (Or.inl rfl))
        have hs39 := slRep.but hs39 hx304 (all_pB (by omega)) (by omega)
        have hp307 : ∀ g, v32.ownBlock = some g → g ≠ b0_ := hp40
        have hs33 := ownR.butF hs33 hx304 (all_pB (fun g hg e => hp307 g hg e.symm))
        have hz308 := (hx304).size
        refine TL.done ?_
        refine NX.seq ?_
        refine WC.block ?_
        refine WC.seq ?_
        refine WC.region ?_
        refine TL.yld rfl rfl (yld_eql rfl rfl rfl) ?_
        refine TL.yld rfl rfl (yld_assign rfl rfl) ?_
        refine TL.done ?_
        refine NX.seq ?_
        refine WC.cond rfl ?_ ?_
        · intro hc309
          replace hF := bif_t hc309 hF
          refine WC.region ?_
          refine TL.yld rfl rfl (yld_move rfl rfl) ?_
          refine TL.yld rfl rfl (yld_move rfl rfl) ?_
          refine TL.yld rfl rfl (yld_move rfl rfl) ?_
          obtain ⟨r310, hr311, hF⟩ := bsome hF
          refine TL.eff rfl rfl (eff_call rfl gf_69 rfl (W_spec_l01Next hr311 hb305 hs39 (by omega) (by omega))) ?_
          rintro _ w312 ⟨rfl, hb314, hx313⟩
          have he315 : But (pB b0_) w w312 := But.but he306 hx313 (all_pB (Or.inl rfl))
          have hs39 := slRep.but hs39 hx313 (all_pB (by omega)) (by omega)
          have hp316 : ∀ g, v32.ownBlock = some g → g ≠ b0_ := hp40
          have hs33 := ownR.butF hs33 hx313 (all_pB (fun g hg e => hp316 g hg e.symm))
          have hz317 := (hx313).size
          refine TL.yld rfl rfl (yld_mul rfl rfl rfl) ?_
          obtain ⟨x318, hy319, hF⟩ := bsome hF
          refine TL.ye rfl rfl (ye_index_own (c := C_Clock) rfl Tryd.underlying25 cn_45 rfl rfl hs33 hy319) ?_
          rintro _ ⟨g320, us322, rfl, hg321, hr323, hcl324⟩
          have hr323r := hr323
          obtain rfl := C_Clock_open hr323
          refine TL.yld rfl rfl (yld_fieldAddr rfl fo_45_6 rfl) ?_
          refine TL.eff rfl rfl (eff_store_own (c := C_Clock) (us' := [.string x318.Name, .int .i64 x318.Place, .int .i64 x318.Period, .int .i64 x318.RiseAt, .int .i64 x318.FallAt, .int .i64 x318.Source, .int .i64 (IntKind.wrap IntKind.i64 (9 * r310.1)), .bool x318.Invert, .int .i64 x318.EarlyLatency, .int .i64 x318.LateLatency, .int .i64 x318.Uncertainty]) (y' := (S_Clock.mk x318.Name x318.Place x318.Period x318.RiseAt x318.FallAt x318.Source (IntKind.wrap IntKind.i64 (9 * r310.1)) x318.Invert x318.EarlyLatency x318.LateLatency x318.Uncertainty)) 6 _ rfl rfl rfl hs33 hg321 hy319 rfl cn_2 rfl hr323r hcl324 rfl rfl C_Clock_mk (fun k h => absurd h.2 (Nat.not_lt_zero k))) ?_
          rintro _ w325 ⟨hu326, hs327⟩
          have he328 : But (pB b0_) w w325 := But.upd he315 hu326 (Or.inr (by have := hbd34 _ hg321; omega))
          have hb314 := Box.upd hb314 hu326 (by have := hp40 _ hg321; omega)
          have hs39 := slRep.upd hs39 hu326 (by have := hbd34 _ hg321; omega)
          have hz329 := (hu326).size
          refine TL.done ?_
          refine NX.blk_n ?_
          refine NX.seq ?_
          refine WC.seq ?_
          refine WC.region ?_
          refine TL.yld rfl rfl (yld_move rfl rfl) ?_
          refine TL.yld rfl rfl (yld_assign rfl rfl) ?_
          refine TL.done ?_
          refine NX.seq ?_
          refine WC.ret' ?_
          obtain rfl := Option.some.inj hF
          exact NX.end (rs := [.tmp 2]) (vs := [v32]) rfl ⟨rfl, trivial⟩ ⟨_, rfl, _, rfl, ownR.base hs327 (by omega), hb314, he328⟩
        · intro hc330
          replace hF := bif_f hc330 hF
          refine WC.seq ?_
          refine WC.region ?_
          refine TL.yld rfl rfl (yld_eql rfl rfl rfl) ?_
          refine TL.yld rfl rfl (yld_assign rfl rfl) ?_
          refine TL.done ?_
          refine NX.seq ?_
          refine WC.cond rfl ?_ ?_
          · intro hc331
            replace hF := bif_t hc331 hF
            refine WC.region ?_
            refine TL.yld rfl rfl (yld_move rfl rfl) ?_
            refine TL.yld rfl rfl (yld_move rfl rfl) ?_
            refine TL.yld rfl rfl (yld_move rfl rfl) ?_
            refine TL.yld rfl rfl (yld_move rfl rfl) ?_
            obtain ⟨x332, hy333, hF⟩ := bsome hF
            refine TL.ye rfl rfl (ye_index_own (c := C_Clock) rfl Tryd.underlying25 cn_45 rfl rfl hs33 hy333) ?_
            rintro _ ⟨g334, us336, rfl, hg335, hr337, hcl338⟩
            have hr337r := hr337
            obtain rfl := C_Clock_open hr337
            refine TL.yld rfl rfl (yld_fieldAddr rfl fo_45_3 rfl) ?_
            refine TL.yld rfl rfl (yld_load1 3 rfl ag_2 rfl hcl338 rfl rfl) ?_
            obtain ⟨x339, hy340, hF⟩ := bsome hF
            refine TL.ye rfl rfl (ye_index_own (c := C_Clock) rfl Tryd.underlying25 cn_45 rfl rfl hs33 hy340) ?_
            rintro _ ⟨g341, us343, rfl, hg342, hr344, hcl345⟩
            have hr344r := hr344
            obtain rfl := C_Clock_open hr344
            refine TL.yld rfl rfl (yld_fieldAddr rfl fo_45_4 rfl) ?_
            refine TL.eff rfl rfl (eff_store_own (c := C_Clock) (us' := [.string x339.Name, .int .i64 x339.Place, .int .i64 x339.Period, .int .i64 x339.RiseAt, .int .i64 x332.RiseAt, .int .i64 x339.Source, .int .i64 x339.Divide, .bool x339.Invert, .int .i64 x339.EarlyLatency, .int .i64 x339.LateLatency, .int .i64 x339.Uncertainty]) (y' := (S_Clock.mk x339.Name x339.Place x339.Period x339.RiseAt x332.RiseAt x339.Source x339.Divide x339.Invert x339.EarlyLatency x339.LateLatency x339.Uncertainty)) 4 _ rfl rfl rfl hs33 hg342 hy340 rfl cn_2 rfl hr344r hcl345 rfl rfl C_Clock_mk (fun k h => absurd h.2 (Nat.not_lt_zero k))) ?_
            rintro _ w346 ⟨hu347, hs348⟩
            have he349 : But (pB b0_) w w346 := But.upd he306 hu347 (Or.inr (by have := hbd34 _ hg342; omega))
            have hb305 := Box.upd hb305 hu347 (by have := hp40 _ hg342; omega)
            have hs39 := slRep.upd hs39 hu347 (by have := hbd34 _ hg342; omega)
            have hz350 := (hu347).size
            refine TL.done ?_
            refine NX.blk_n ?_
            refine NX.seq ?_
            refine WC.seq ?_
            refine WC.region ?_
            refine TL.yld rfl rfl (yld_move rfl rfl) ?_
            refine TL.yld rfl rfl (yld_assign rfl rfl) ?_
            refine TL.done ?_
            refine NX.seq ?_
            refine WC.ret' ?_
            obtain rfl := Option.some.inj hF
            exact NX.end (rs := [.tmp 2]) (vs := [v32]) rfl ⟨rfl, trivial⟩ ⟨_, rfl, _, rfl, ownR.base hs348 (by omega), hb305, he349⟩
          · intro hc351
            replace hF := bif_f hc351 hF
            refine WC.seq ?_
            refine WC.region ?_
            refine TL.yld rfl rfl (yld_eql rfl rfl rfl) ?_
            refine TL.yld rfl rfl (yld_assign rfl rfl) ?_
            refine TL.done ?_
            refine NX.seq ?_
            refine WC.cond rfl ?_ ?_
            · intro hc352
              replace hF := bif_t hc352 hF
              refine WC.region ?_
              refine TL.yld rfl rfl (yld_move rfl rfl) ?_
              refine TL.yld rfl rfl (yld_move rfl rfl) ?_
              refine TL.yld rfl rfl (yld_move rfl rfl) ?_
              obtain ⟨x353, hy354, hF⟩ := bsome hF
              refine TL.ye rfl rfl (ye_index_own (c := C_Clock) rfl Tryd.underlying25 cn_45 rfl rfl hs33 hy354) ?_
              rintro _ ⟨g355, us357, rfl, hg356, hr358, hcl359⟩
              have hr358r := hr358
              obtain rfl := C_Clock_open hr358
              refine TL.yld rfl rfl (yld_fieldAddr rfl fo_45_0 rfl) ?_
              refine TL.yld rfl rfl (yld_load1 0 rfl ag_9 rfl hcl359 rfl rfl) ?_
              obtain ⟨x360, hy361, hF⟩ := bsome hF
              refine TL.ye rfl rfl (ye_index_own (c := C_Clock) rfl Tryd.underlying25 cn_45 rfl rfl hs33 hy361) ?_
              rintro _ ⟨g362, us364, rfl, hg363, hr365, hcl366⟩
              have hr365r := hr365
              obtain rfl := C_Clock_open hr365
              refine TL.yld rfl rfl (yld_fieldAddr rfl fo_45_0 rfl) ?_
              refine TL.eff rfl rfl (eff_store_own (c := C_Clock) (us' := [.string x353.Name, .int .i64 x360.Place, .int .i64 x360.Period, .int .i64 x360.RiseAt, .int .i64 x360.FallAt, .int .i64 x360.Source, .int .i64 x360.Divide, .bool x360.Invert, .int .i64 x360.EarlyLatency, .int .i64 x360.LateLatency, .int .i64 x360.Uncertainty]) (y' := (S_Clock.mk x353.Name x360.Place x360.Period x360.RiseAt x360.FallAt x360.Source x360.Divide x360.Invert x360.EarlyLatency x360.LateLatency x360.Uncertainty)) 0 _ rfl rfl rfl hs33 hg363 hy361 rfl cn_9 rfl hr365r hcl366 rfl rfl C_Clock_mk (fun k h => absurd h.2 (Nat.not_lt_zero k))) ?_
              rintro _ w367 ⟨hu368, hs369⟩
              have he370 : But (pB b0_) w w367 := But.upd he306 hu368 (Or.inr (by have := hbd34 _ hg363; omega))
              have hb305 := Box.upd hb305 hu368 (by have := hp40 _ hg363; omega)
              have hs39 := slRep.upd hs39 hu368 (by have := hbd34 _ hg363; omega)
              have hz371 := (hu368).size
              refine TL.done ?_
              refine NX.blk_n ?_
              refine NX.seq ?_
              refine WC.seq ?_
              refine WC.region ?_
              refine TL.yld rfl rfl (yld_move rfl rfl) ?_
              refine TL.yld rfl rfl (yld_assign rfl rfl) ?_
              refine TL.done ?_
              refine NX.seq ?_
              refine WC.ret' ?_
              obtain rfl := Option.some.inj hF
              exact NX.end (rs := [.tmp 2]) (vs := [v32]) rfl ⟨rfl, trivial⟩ ⟨_, rfl, _, rfl, ownR.base hs369 (by omega), hb305, he370⟩
            · intro hc372
              replace hF := bif_f hc372 hF
              refine WC.seq ?_
              refine WC.region ?_
              refine TL.yld rfl rfl (yld_eql rfl rfl rfl) ?_
              refine TL.yld rfl rfl (yld_assign rfl rfl) ?_
              refine TL.done ?_
              refine NX.seq ?_
              refine WC.cond rfl ?_ ?_
              · intro hc373
                replace hF := bif_t hc373 hF
                refine WC.region ?_
                refine TL.yld rfl rfl (yld_move rfl rfl) ?_
                refine TL.yld rfl rfl (yld_move rfl rfl) ?_
                refine TL.yld rfl rfl (yld_move rfl rfl) ?_
                obtain ⟨x374, hy375, hF⟩ := bsome hF
                refine TL.ye rfl rfl (ye_index_own (c := C_Clock) rfl Tryd.underlying25 cn_45 rfl rfl hs33 hy375) ?_
                rintro _ ⟨g376, us378, rfl, hg377, hr379, hcl380⟩
                have hr379r := hr379
                obtain rfl := C_Clock_open hr379
                refine TL.yld rfl rfl (yld_fieldAddr rfl fo_45_5 rfl) ?_
                refine TL.eff rfl rfl (eff_store_own (c := C_Clock) (us' := [.string x374.Name, .int .i64 x374.Place, .int .i64 x374.Period, .int .i64 x374.RiseAt, .int .i64 x374.FallAt, .int .i64 r293.1, .int .i64 x374.Divide, .bool x374.Invert, .int .i64 x374.EarlyLatency, .int .i64 x374.LateLatency, .int .i64 x374.Uncertainty]) (y' := (S_Clock.mk x374.Name x374.Place x374.Period x374.RiseAt x374.FallAt r293.1 x374.Divide x374.Invert x374.EarlyLatency x374.LateLatency x374.Uncertainty)) 5 _ rfl rfl rfl hs33 hg377 hy375 rfl cn_2 rfl hr379r hcl380 rfl rfl C_Clock_mk (fun k h => absurd h.2 (Nat.not_lt_zero k))) ?_
                rintro _ w381 ⟨hu382, hs383⟩
                have he384 : But (pB b0_) w w381 := But.upd he306 hu382 (Or.inr (by have := hbd34 _ hg377; omega))
                have hb305 := Box.upd hb305 hu382 (by have := hp40 _ hg377; omega)
                have hs39 := slRep.upd hs39 hu382 (by have := hbd34 _ hg377; omega)
                have hz385 := (hu382).size
                refine TL.done ?_
                refine NX.blk_n ?_
                refine NX.seq ?_
                refine WC.seq ?_
                refine WC.region ?_
                refine TL.yld rfl rfl (yld_move rfl rfl) ?_
                refine TL.yld rfl rfl (yld_assign rfl rfl) ?_
                refine TL.done ?_
                refine NX.seq ?_
                refine WC.ret' ?_
                obtain rfl := Option.some.inj hF
                exact NX.end (rs := [.tmp 2]) (vs := [v32]) rfl ⟨rfl, trivial⟩ ⟨_, rfl, _, rfl, ownR.base hs383 (by omega), hb305, he384⟩
              · intro hc386
                replace hF := bif_f hc386 hF
                refine WC.seq ?_
                refine WC.region ?_
                refine TL.yld rfl rfl (yld_eql rfl rfl rfl) ?_
                refine TL.yld rfl rfl (yld_assign rfl rfl) ?_
                refine TL.done ?_
                refine NX.seq ?_
                refine WC.cond rfl ?_ ?_
                · intro hc387
                  replace hF := bif_t hc387 hF
                  refine WC.region ?_
                  refine TL.yld rfl rfl (yld_move rfl rfl) ?_
                  refine TL.yld rfl rfl (yld_move rfl rfl) ?_
                  refine TL.yld rfl rfl (yld_move rfl rfl) ?_
                  refine TL.yld rfl rfl (yld_move rfl rfl) ?_
                  obtain ⟨x388, hy389, hF⟩ := bsome hF
                  refine TL.ye rfl rfl (ye_index_own (c := C_Clock) rfl Tryd.underlying25 cn_45 rfl rfl hs33 hy389) ?_
                  rintro _ ⟨g390, us392, rfl, hg391, hr393, hcl394⟩
                  have hr393r := hr393
                  obtain rfl := C_Clock_open hr393
                  refine TL.yld rfl rfl (yld_fieldAddr rfl fo_45_8 rfl) ?_
                  refine TL.yld rfl rfl (yld_load1 8 rfl ag_2 rfl hcl394 rfl rfl) ?_
                  refine TL.yld rfl rfl (yld_sub rfl rfl rfl) ?_
                  obtain ⟨x395, hy396, hF⟩ := bsome hF
                  refine TL.ye rfl rfl (ye_index_own (c := C_Clock) rfl Tryd.underlying25 cn_45 rfl rfl hs33 hy396) ?_
                  rintro _ ⟨g397, us399, rfl, hg398, hr400, hcl401⟩
                  have hr400r := hr400
                  obtain rfl := C_Clock_open hr400
                  refine TL.yld rfl rfl (yld_fieldAddr rfl fo_45_9 rfl) ?_
                  refine TL.eff rfl rfl (eff_store_own (c := C_Clock) (us' := [.string x395.Name, .int .i64 x395.Place, .int .i64 x395.Period, .int .i64 x395.RiseAt, .int .i64 x395.FallAt, .int .i64 x395.Source, .int .i64 x395.Divide, .bool x395.Invert, .int .i64 x395.EarlyLatency, .int .i64 (IntKind.wrap IntKind.i64 (x388.EarlyLatency - 1)), .int .i64 x395.Uncertainty]) (y' := (S_Clock.mk x395.Name x395.Place x395.Period x395.RiseAt x395.FallAt x395.Source x395.Divide x395.Invert x395.EarlyLatency (IntKind.wrap IntKind.i64 (x388.EarlyLatency - 1)) x395.Uncertainty)) 9 _ rfl rfl rfl hs33 hg398 hy396 rfl cn_2 rfl hr400r hcl401 rfl rfl C_Clock_mk (fun k h => absurd h.2 (Nat.not_lt_zero k))) ?_
                  rintro _ w402 ⟨hu403, hs404⟩
                  have he405 : But (pB b0_) w w402 := But.upd he306 hu403 (Or.inr (by have := hbd34 _ hg398; omega))
                  have hb305 := Box.upd hb305 hu403 (by have := hp40 _ hg398; omega)
                  have hs39 := slRep.upd hs39 hu403 (by have := hbd34 _ hg398; omega)
                  have hz406 := (hu403).size
                  refine TL.done ?_
                  refine NX.blk_n ?_
                  refine NX.seq ?_
                  refine WC.seq ?_
                  refine WC.region ?_
                  refine TL.yld rfl rfl (yld_move rfl rfl) ?_
                  refine TL.yld rfl rfl (yld_assign rfl rfl) ?_
                  refine TL.done ?_
                  refine NX.seq ?_
                  refine WC.ret' ?_
                  obtain rfl := Option.some.inj hF
                  exact NX.end (rs := [.tmp 2]) (vs := [v32]) rfl ⟨rfl, trivial⟩ ⟨_, rfl, _, rfl, ownR.base hs404 (by omega), hb305, he405⟩
                · intro hc407
                  replace hF := bif_f hc407 hF
                  refine WC.seq ?_
                  refine WC.region ?_
                  refine TL.yld rfl rfl (yld_eql rfl rfl rfl) ?_
                  refine TL.yld rfl rfl (yld_assign rfl rfl) ?_
                  refine TL.done ?_
                  refine NX.seq ?_
                  refine WC.cond rfl ?_ ?_
                  · intro hc408
                    replace hF := bif_t hc408 hF
                    refine WC.region ?_
                    refine TL.yld rfl rfl (yld_move rfl rfl) ?_
                    refine TL.yld rfl rfl (yld_move rfl rfl) ?_
                    obtain ⟨r409, hr410, hF⟩ := bsome hF
                    refine TL.eff rfl rfl (eff_call rfl gf_69 rfl (W_spec_l01Next hr410 hb305 hs39 (by omega) (by omega))) ?_
                    rintro _ w411 ⟨rfl, hb413, hx412⟩
                    have he414 : But (pB b0_) w w411 := But.but he306 hx412 (all_pB (Or.inl rfl))
                    have hs39 := slRep.but hs39 hx412 (all_pB (by omega)) (by omega)
                    have hp415 : ∀ g, v32.ownBlock = some g → g ≠ b0_ := hp40
                    have hs33 := ownR.butF hs33 hx412 (all_pB (fun g hg e => hp415 g hg e.symm))
                    have hz416 := (hx412).size
                    refine TL.yld rfl rfl (yld_add rfl rfl rfl) ?_
                    obtain ⟨x417, hy418, hF⟩ := bsome hF
                    refine TL.ye rfl rfl (ye_index_own (c := C_Clock) rfl Tryd.underlying25 cn_45 rfl rfl hs33 hy418) ?_
                    rintro _ ⟨g419, us421, rfl, hg420, hr422, hcl423⟩
                    have hr422r := hr422
                    obtain rfl := C_Clock_open hr422
                    refine TL.yld rfl rfl (yld_fieldAddr rfl fo_45_2 rfl) ?_
                    refine TL.eff rfl rfl (eff_store_own (c := C_Clock) (us' := [.string x417.Name, .int .i64 x417.Place, .int .i64 (IntKind.wrap IntKind.i64 (100000 + r409.1)), .int .i64 x417.RiseAt, .int .i64 x417.FallAt, .int .i64 x417.Source, .int .i64 x417.Divide, .bool x417.Invert, .int .i64 x417.EarlyLatency, .int .i64 x417.LateLatency, .int .i64 x417.Uncertainty]) (y' := (S_Clock.mk x417.Name x417.Place (IntKind.wrap IntKind.i64 (100000 + r409.1)) x417.RiseAt x417.FallAt x417.Source x417.Divide x417.Invert x417.EarlyLatency x417.LateLatency x417.Uncertainty)) 2 _ rfl rfl rfl hs33 hg420 hy418 rfl cn_2 rfl hr422r hcl423 rfl rfl C_Clock_mk (fun k h => absurd h.2 (Nat.not_lt_zero k))) ?_
                    rintro _ w424 ⟨hu425, hs426⟩
                    have he427 : But (pB b0_) w w424 := But.upd he414 hu425 (Or.inr (by have := hbd34 _ hg420; omega))
                    have hb413 := Box.upd hb413 hu425 (by have := hp40 _ hg420; omega)
                    have hs39 := slRep.upd hs39 hu425 (by have := hbd34 _ hg420; omega)
                    have hz428 := (hu425).size
                    refine TL.done ?_
                    refine NX.blk_n ?_
                    refine NX.seq ?_
                    refine WC.seq ?_
                    refine WC.region ?_
                    refine TL.yld rfl rfl (yld_move rfl rfl) ?_
                    refine TL.yld rfl rfl (yld_assign rfl rfl) ?_
                    refine TL.done ?_
                    refine NX.seq ?_
                    refine WC.ret' ?_
                    obtain rfl := Option.some.inj hF
                    exact NX.end (rs := [.tmp 2]) (vs := [v32]) rfl ⟨rfl, trivial⟩ ⟨_, rfl, _, rfl, ownR.base hs426 (by omega), hb413, he427⟩
                  · intro hc429
                    replace hF := bif_f hc429 hF
                    refine WC.seq ?_
                    refine WC.region ?_
                    refine TL.yld rfl rfl (yld_eql rfl rfl rfl) ?_
                    refine TL.yld rfl rfl (yld_assign rfl rfl) ?_
                    refine TL.done ?_
                    refine NX.seq ?_
                    refine WC.cond rfl ?_ ?_
                    · intro hc430
                      replace hF := bif_t hc430 hF
                      refine WC.block ?_
                      refine WC.loop (fun m440 a wl => ∃ (l433 : List S_Clock) (v434 : Value), Kn 163 [(3, v434)] a ∧ But (pB b0_) w wl ∧ w303.heap.size ≤ wl.heap.size ∧ Box wl b0_ [v1, .int .i64 r301.2.at_, .int .i64 r301.2.seed_] 90 ∧ slRep (cInt .u8) wl (Iv lo3 hi4) a0_s.code_ v1 ∧ ownR C_Clock wl (g10) (Iv 0 0) 45 l433 v434 ∧ (∀ q, v434.ownBlock = some q → g10 ≤ q ∧ q < wl.heap.size) ∧ (∀ g, v434.ownBlock = some g → g ≠ b0_) ∧ F_spec_l14Draw_L2 n (fun l433 => (some (l433, (S_l01Source.mk a0_s.code_ r301.2.at_ r301.2.seed_)))) m440 l433 = some r) n ?_ ?_
                      · intro a hK; exact ⟨l31, v32, hK.weaken ⟨rfl, trivial⟩, he306, Nat.le_refl _, hb305, hs39, hs33, (fun g hg => by have := hbd34 g hg; omega), hp40, hF⟩
                      · rintro m440 a w431 ⟨l433, v434, hK, he432, hz441, hb437, hs438, hs435, hbd436, hp439, hF⟩
                        revert hK; revert a; refine (?_ : WC _ _ _ _ _ _)
                        cases m440 with
                        | zero => rw [F_spec_l14Draw_L2_z] at hF; cases hF
                        | succ m440 =>
                          rw [F_spec_l14Draw_L2_s] at hF
                          refine WC.seq ?_
                          refine WC.seq ?_
                          refine WC.region ?_
                          refine TL.yld rfl rfl (yld_move rfl rfl) ?_
                          refine TL.yld rfl rfl (yld_len_own (c := C_Clock) rfl Tryd.underlying25 rfl hs435) ?_
                          refine TL.yld rfl rfl (yld_lss rfl rfl rfl) ?_
                          refine TL.done ?_
                          refine NX.seq ?_
                          refine WC.cond rfl ?_ ?_
                          · intro hc442
                            replace hF := bif_t hc442 hF
                            refine WC.skip' ?_
                            refine NX.seq ?_
                            refine WC.block ?_
                            refine WC.seq ?_
                            refine WC.region ?_
                            refine TL.yld rfl rfl (yld_move rfl rfl) ?_
                            obtain ⟨x443, hy444, hF⟩ := bsome hF
                            refine TL.ye rfl rfl (ye_index_own (c := C_Clock) rfl Tryd.underlying25 cn_45 rfl rfl hs435 hy444) ?_
                            rintro _ ⟨g445, us447, rfl, hg446, hr448, hcl449⟩
                            have hr448r := hr448
                            obtain rfl := C_Clock_open hr448
                            refine TL.yld rfl rfl (yld_loadN (us := [.string x443.Name, .int .i64 x443.Place, .int .i64 x443.Period, .int .i64 x443.RiseAt, .int .i64 x443.FallAt, .int .i64 x443.Source, .int .i64 x443.Divide, .bool x443.Invert, .int .i64 x443.EarlyLatency, .int .i64 x443.LateLatency, .int .i64 x443.Uncertainty]) rfl ag_45 rfl hcl449 cn_45) ?_
                            refine TL.eff rfl rfl (eff_alloc rfl zn_45) ?_
                            rintro _ w451 ⟨b450, rfl, hn452⟩
                            obtain ⟨hn452e, hn452s, hn452x, hb453⟩ := hn452
                            have hb453 : Box w451 b450 [.string ByteArray.empty, .int .i64 0, .int .i64 0, .int .i64 0, .int .i64 0, .int .i64 0, .int .i64 0, .bool false, .int .i64 0, .int .i64 0, .int .i64 0] 45 := hb453
                            have he455 : But (pB b0_) w w451 := But.ext he432 hn452x
                            have hb437 := Box.ext hb437 hn452x
                            have hs438 := slRep.old hs438 hn452x (by omega)
                            have hs435 := ownR.ext hs435 hn452x
                            have hz456 := (hn452x).size
                            have hlo454 : w.heap.size ≤ b450 := by rw [hn452e]; exact (he432).size
                            refine TL.eff rfl rfl (eff_store rfl rfl rfl hb453 cn_45 rfl rfl) ?_
                            rintro _ w457 ⟨hu458, hb459⟩
                            have he460 : But (pB b0_) w w457 := But.upd he455 hu458 (Or.inr (by omega))
                            have hb437 := Box.upd hb437 hu458 (by omega)
                            have hs438 := slRep.upd hs438 hu458 (by omega)
                            have hs435 := ownR.upd hs435 hu458 (fun g hg => by have := hbd436 g hg; omega)
                            have hz461 := (hu458).size
                            have hb453 : Box w457 b450 [.string x443.Name, .int .i64 x443.Place, .int .i64 x443.Period, .int .i64 x443.RiseAt, .int .i64 x443.FallAt, .int .i64 x443.Source, .int .i64 x443.Divide, .bool x443.Invert, .int .i64 x443.EarlyLatency, .int .i64 x443.LateLatency, .int .i64 x443.Uncertainty] 45 := hb459
                            refine TL.done ?_
                            refine NX.seq ?_
                            refine WC.seq ?_
                            refine WC.region ?_
                            refine TL.yld rfl rfl (yld_move rfl rfl) ?_
                            refine TL.yld rfl rfl (yld_len_own (c := C_Clock) rfl Tryd.underlying25 rfl hs435) ?_
                            obtain ⟨r462, hr463, hF⟩ := bsome hF
                            refine TL.eff rfl rfl (eff_call rfl gf_78 rfl (W_spec_l01Number hr463)) ?_
                            rintro _ w464 ⟨rfl, hx465⟩
                            have he466 : But (pB b0_) w w464 := But.ext he460 hx465
                            have hb437 := Box.ext hb437 hx465
                            have hb453 := Box.ext hb453 hx465
                            have hs438 := slRep.old hs438 hx465 (by omega)
                            have hs435 := ownR.ext hs435 hx465
                            have hz467 := (hx465).size
                            obtain ⟨t468, ht469, hF⟩ := bsome hF
                            refine TL.yld rfl rfl (yld_cat rfl rfl rfl ht469) ?_
                            refine TL.yld rfl rfl (yld_fieldAddr rfl fo_45_0 rfl) ?_
                            refine TL.eff rfl rfl (eff_store rfl rfl rfl hb453 cn_9 rfl rfl) ?_
                            rintro _ w470 ⟨hu471, hb472⟩
                            have he473 : But (pB b0_) w w470 := But.upd he466 hu471 (Or.inr (by omega))
                            have hb437 := Box.upd hb437 hu471 (by omega)
                            have hs438 := slRep.upd hs438 hu471 (by omega)
                            have hs435 := ownR.upd hs435 hu471 (fun g hg => by have := hbd436 g hg; omega)
                            have hz474 := (hu471).size
                            have hb453 : Box w470 b450 [.string t468, .int .i64 x443.Place, .int .i64 x443.Period, .int .i64 x443.RiseAt, .int .i64 x443.FallAt, .int .i64 x443.Source, .int .i64 x443.Divide, .bool x443.Invert, .int .i64 x443.EarlyLatency, .int .i64 x443.LateLatency, .int .i64 x443.Uncertainty] 45 := hb472
                            refine TL.done ?_
                            refine NX.seq ?_
                            refine WC.region ?_
                            refine TL.yld rfl rfl (yld_move rfl rfl) ?_
                            refine TL.yld rfl rfl (yld_loadN (us := [.string t468, .int .i64 x443.Place, .int .i64 x443.Period, .int .i64 x443.RiseAt, .int .i64 x443.FallAt, .int .i64 x443.Source, .int .i64 x443.Divide, .bool x443.Invert, .int .i64 x443.EarlyLatency, .int .i64 x443.LateLatency, .int .i64 x443.Uncertainty]) rfl ag_45 rfl (Box.cells hb453) cn_45) ?_
                            refine TL.eff rfl rfl (eff_buildSlice (c := C_Clock) (xs := [(S_Clock.mk t468 x443.Place x443.Period x443.RiseAt x443.FallAt x443.Source x443.Divide x443.Invert x443.EarlyLatency x443.LateLatency x443.Uncertainty)]) (S := (Iv 0 0)) (uss := [(0, [.string t468, .int .i64 x443.Place, .int .i64 x443.Period, .int .i64 x443.RiseAt, .int .i64 x443.FallAt, .int .i64 x443.Source, .int .i64 x443.Divide, .bool x443.Invert, .int .i64 x443.EarlyLatency, .int .i64 x443.LateLatency, .int .i64 x443.Uncertainty])]) (out := [.string t468, .int .i64 x443.Place, .int .i64 x443.Period, .int .i64 x443.RiseAt, .int .i64 x443.FallAt, .int .i64 x443.Source, .int .i64 x443.Divide, .bool x443.Invert, .int .i64 x443.EarlyLatency, .int .i64 x443.LateLatency, .int .i64 x443.Uncertainty]) rfl Tryd.underlying25 in_45 rfl rfl (fillL_all [[.string t468, .int .i64 x443.Place, .int .i64 x443.Period, .int .i64 x443.RiseAt, .int .i64 x443.FallAt, .int .i64 x443.Source, .int .i64 x443.Divide, .bool x443.Invert, .int .i64 x443.EarlyLatency, .int .i64 x443.LateLatency, .int .i64 x443.Uncertainty]] rfl rfl rfl) rfl rfl rfl rfl (one_rep (uss := [[.string t468, .int .i64 x443.Place, .int .i64 x443.Period, .int .i64 x443.RiseAt, .int .i64 x443.FallAt, .int .i64 x443.Source, .int .i64 x443.Divide, .bool x443.Invert, .int .i64 x443.EarlyLatency, .int .i64 x443.LateLatency, .int .i64 x443.Uncertainty]]) (show reps _ _ _ _ _ from ⟨C_Clock_mk, trivial⟩) rfl) (fun k h => by have := h.2; omega) rfl) ?_
                            rintro v475 w476 ⟨g477, hv478, hg479, hz480, hx481, hs482⟩
                            have he483 : But (pB b0_) w w476 := But.ext he473 hx481
                            have hb437 := Box.ext hb437 hx481
                            have hb453 := Box.ext hb453 hx481
                            have hs438 := slRep.old hs438 hx481 (by omega)
                            have hs435 := ownR.ext hs435 hx481
                            have hz484 := (hx481).size
                            have hlo485 : w.heap.size ≤ g477 := by rw [hg479]; exact (he473).size
                            have hbd486 := bd_of hv478
                            clear hv478
                            obtain ⟨z488, ha489, hF⟩ := bsome hF
                            refine TL.eff rfl rfl (eff_appendF (c := C_Clock) rfl Tryd.underlying25 in_45 rfl rfl rfl rfl rfl hs435 (by omega) (ownR.slf hs482 (Nat.le_refl _) (Nat.le_refl _)) ha489) ?_
                            rintro v490 w491 ⟨hs492, hgr493⟩
                            have he495 : But (pB b0_) w w491 := But.grow he483 hgr493 (fun g hg => (Or.inr (by have := hbd436 g hg; omega)))
                            have hp496 : ∀ g, v490.ownBlock = some g → g ≠ b0_ := Grew.sepP (p := fun g => g ≠ b0_) hgr493 hp439 (fun g hg => by omega)
                            have hb437 := Grew.box hgr493 hb437 hp439
                            have hp497 : ∀ g, v490.ownBlock = some g → g ≠ b450 := Grew.sepP (p := fun g => g ≠ b450) hgr493 (fun g hg => by have := hbd436 g hg; omega) (fun g hg => by omega)
                            have hb453 := Grew.box hgr493 hb453 (fun g hg => by have := hbd436 g hg; omega)
                            have hp498 : ∀ g, v490.ownBlock = some g → g < lo3 ∨ hi4 ≤ g := Grew.sepP (p := fun g => g < lo3 ∨ hi4 ≤ g) hgr493 (fun g hg => by have := hbd436 g hg; omega) (fun g hg => by omega)
                            have hs438 := Grew.slr hgr493 hs438 (fun g hg => by have := hbd436 g hg; omega) (by omega)
                            have hp499 : ∀ g q, v434.ownBlock = some g → v475.ownBlock = some q → g ≠ q := (fun g q hg hq => by have := hbd436 g hg; have := hbd486 q hq; omega)
                            have hp500 : ∀ g q, v490.ownBlock = some g → v475.ownBlock = some q → g ≠ q := fun g q hg hq => Grew.sepP (p := fun g => ∀ q, v475.ownBlock = some q → g ≠ q) hgr493 (fun g hg q hq => (hp499) g q hg hq) (fun g hg q hq => by have := hbd486 q hq; omega) g hg q hq
                            have hs482 := Grew.ownF hgr493 hs482 hp499
                            have hz501 := (hgr493).1.size
                            have hbd502 : ∀ g, v490.ownBlock = some g → g10 ≤ g ∧ g < w491.heap.size := Grew.bd hgr493 hs492 (fun g hg => ⟨by have := hbd436 g hg; omega, (hbd436 g hg).2⟩) (by omega) (by omega)
                            refine TL.yld rfl rfl (yld_assign rfl rfl) ?_
                            refine TL.done ?_
                            refine NX.blk_n ?_
                            refine NX.then_n ?_
                            intro a hK; exact ⟨m440, Nat.lt_succ_self m440, z488, v490, hK.weaken ⟨rfl, trivial⟩, he495, (by omega), hb437, hs438, hs492, (fun g hg => by have := hbd502 g hg; omega), hp496, hF⟩
                          · intro hc503
                            replace hF := bif_f hc503 hF
                            refine WC.exit' ?_
                            refine NX.then_e ?_
                            refine NX.then_e ?_
                            refine NX.blk_hit ?_
                            refine NX.blk_n ?_
                            refine NX.seq ?_
                            refine WC.seq ?_
                            refine WC.region ?_
                            refine TL.yld rfl rfl (yld_move rfl rfl) ?_
                            refine TL.yld rfl rfl (yld_assign rfl rfl) ?_
                            refine TL.done ?_
                            refine NX.seq ?_
                            refine WC.ret' ?_
                            obtain rfl := Option.some.inj hF
                            exact NX.end (rs := [.tmp 2]) (vs := [v434]) rfl ⟨rfl, trivial⟩ ⟨_, rfl, _, rfl, ownR.base hs435 (by omega), hb437, he432⟩
                    · intro hc504
                      replace hF := bif_f hc504 hF
                      refine WC.skip' ?_
                      refine NX.blk_n ?_
                      refine NX.seq ?_
                      refine WC.seq ?_
                      refine WC.region ?_
                      refine TL.yld rfl rfl (yld_move rfl rfl) ?_
                      refine TL.yld rfl rfl (yld_assign rfl rfl) ?_
                      refine TL.done ?_
                      refine NX.seq ?_
                      refine WC.ret' ?_
                      obtain rfl := Option.some.inj hF
                      exact NX.end (rs := [.tmp 2]) (vs := [v32]) rfl ⟨rfl, trivial⟩ ⟨_, rfl, _, rfl, ownR.base hs33 (by omega), hb305, he306⟩

-- loop.example/g00861/spec.l14DrawIndex
def F_spec_l14DrawIndex (n : Nat) (a0_s : S_l01Source) (a1_list : List S_Clock) : Option (Int × S_l01Source) := (Option.bind (F_spec_l01Next n a0_s 20) fun r14 => (bif (r14.1 == 0) then (Option.bind (F_spec_l01Next n ((S_l01Source.mk a0_s.code_ r14.2.at_ r14.2.seed_)) 2) fun r35 => (Option.bind (getI ([(-1), (a1_list.length : Int)]) r35.1) fun x43 => (some (x43, (S_l01Source.mk a0_s.code_ r35.2.at_ r35.2.seed_))))) else (Option.bind (F_spec_l01Next n ((S_l01Source.mk a0_s.code_ r14.2.at_ r14.2.seed_)) ((a1_list.length : Int))) fun r51 => (some (r51.1, (S_l01Source.mk a0_s.code_ r51.2.at_ r51.2.seed_))))))
set_option maxHeartbeats 40000000 in
theorem W_spec_l14DrawIndex {n : Nat} {a0_s : S_l01Source} {a1_list : List S_Clock} {r : Int × S_l01Source} {w : World} {v1 : Value} {lo3 hi4 : Nat} {b0_ : Nat} {v6 : Value} {lo8 hi9 : Nat} (hF : F_spec_l14DrawIndex n a0_s a1_list = some r) (hb5 : Box w b0_ [v1, .int .i64 a0_s.at_, .int .i64 a0_s.seed_] 90) (ha2 : slRep (cInt .u8) w (Iv lo3 hi4) a0_s.code_ v1) (hh10 : hi4 ≤ w.heap.size) (hh11 : b0_ < lo3 ∨ hi4 ≤ b0_) (ha7 : slRep C_Clock w (Iv lo8 hi9) a1_list v6) (hh12 : hi9 ≤ w.heap.size) (hh13 : b0_ < lo8 ∨ hi9 ≤ b0_) :
    Calls Tryd.prog 58 [.pointer (some ⟨b0_, 0, none⟩), v6].toArray w (Ret fun u w2 => u = .int .i64 r.1 ∧ Box w2 b0_ [v1, .int .i64 r.2.at_, .int .i64 r.2.seed_] 90 ∧ But (pB b0_) w w2) := by
  refine calls_of Tryd.func58 rfl Tryd.ntmps58 ?_
  have he0 : But (pB b0_) w w := But.refl _ w
  have := Box.lt hb5
  unfold F_spec_l14DrawIndex at hF
  refine WC.seq ?_
  refine WC.region ?_
  refine TL.yld rfl rfl (yld_assign rfl rfl) ?_
  refine TL.done ?_
  refine NX.seq ?_
  refine WC.seq ?_
  refine WC.seq ?_
  refine WC.region ?_
  refine TL.yld rfl rfl (yld_move rfl rfl) ?_
  obtain ⟨r14, hr15, hF⟩ := bsome hF
  refine TL.eff rfl rfl (eff_call rfl gf_69 rfl (W_spec_l01Next hr15 hb5 ha2 (by omega) (by omega))) ?_
  rintro _ w16 ⟨rfl, hb18, hx17⟩
  have he19 : But (pB b0_) w w16 := But.but he0 hx17 (all_pB (Or.inl rfl))
  have ha7 := slRep.but ha7 hx17 (all_pB (by omega)) (by omega)
  have ha2 := slRep.but ha2 hx17 (all_pB (by omega)) (by omega)
  have hz20 := (hx17).size
  refine TL.yld rfl rfl (yld_eql rfl rfl rfl) ?_
  refine TL.done ?_
  refine NX.seq ?_
  refine WC.cond rfl ?_ ?_
  · intro hc21
    replace hF := bif_t hc21 hF
    refine WC.seq ?_
    refine WC.region ?_
    refine TL.yld rfl rfl (yld_move rfl rfl) ?_
    refine TL.yld rfl rfl (ye_len (c := C_Clock) rfl Tryd.underlying25 rfl ha7) ?_
    refine TL.eff rfl rfl (eff_buildSlice (c := (cInt .i64)) (xs := [(-1), (a1_list.length : Int)]) (S := (Iv 0 0)) (uss := [(0, [.int .i64 (-1)]), (1, [.int .i64 ((a1_list.length : Int))])]) (out := [.int .i64 (-1), .int .i64 ((a1_list.length : Int))]) rfl Tryd.underlying46 in_2 rfl rfl (fillL_all [[.int .i64 (-1)], [.int .i64 ((a1_list.length : Int))]] rfl rfl rfl) rfl rfl rfl rfl (one_rep (uss := [[.int .i64 (-1)], [.int .i64 ((a1_list.length : Int))]]) (show reps _ _ _ _ _ from ⟨rfl, rfl, trivial⟩) rfl) (fun k h => by have := h.2; omega) rfl) ?_
    rintro v22 w23 ⟨g24, hv25, hg26, hz27, hx28, hs29⟩
    have he30 : But (pB b0_) w w23 := But.ext he19 hx28
    have hb18 := Box.ext hb18 hx28
    have ha7 := slRep.old ha7 hx28 (by omega)
    have ha2 := slRep.old ha2 hx28 (by omega)
    have hz31 := (hx28).size
    have hlo32 : w.heap.size ≤ g24 := by rw [hg26]; exact (he19).size
    have hbd33 := bd_of hv25
    clear hv25
    refine TL.yld rfl rfl (yld_move rfl rfl) ?_
    obtain ⟨r35, hr36, hF⟩ := bsome hF
    refine TL.eff rfl rfl (eff_call rfl gf_69 rfl (W_spec_l01Next hr36 hb18 ha2 (by omega) (by omega))) ?_
    rintro _ w37 ⟨rfl, hb39, hx38⟩
    have he40 : But (pB b0_) w w37 := But.but he30 hx38 (all_pB (Or.inl rfl))
    have ha7 := slRep.but ha7 hx38 (all_pB (by omega)) (by omega)
    have ha2 := slRep.but ha2 hx38 (all_pB (by omega)) (by omega)
    have hp41 : ∀ g, v22.ownBlock = some g → g ≠ b0_ := (fun g hg => by have := hbd33 g hg; omega)
    have hs29 := ownR.butF hs29 hx38 (all_pB (fun g hg e => hp41 g hg e.symm))
    have hz42 := (hx38).size
    obtain ⟨x43, hy44, hF⟩ := bsome hF
    refine TL.ye rfl rfl (ye_index_own (c := (cInt .i64)) rfl Tryd.underlying46 cn_2 rfl rfl hs29 hy44) ?_
    rintro _ ⟨g45, us47, rfl, hg46, hr48, hcl49⟩
    have hr48r := hr48
    obtain rfl := hr48
    refine TL.yld rfl rfl (yld_load1 0 rfl ag_2 rfl hcl49 rfl rfl) ?_
    refine TL.yld rfl rfl (yld_assign rfl rfl) ?_
    refine TL.done ?_
    refine NX.seq ?_
    refine WC.ret' ?_
    refine NX.then_r ?_
    obtain rfl := Option.some.inj hF
    exact NX.end (rs := [.tmp 4]) (vs := [.int .i64 x43]) rfl ⟨rfl, trivial⟩ ⟨_, rfl, rfl, hb39, he40⟩
  · intro hc50
    replace hF := bif_f hc50 hF
    refine WC.skip' ?_
    refine NX.seq ?_
    refine WC.seq ?_
    refine WC.region ?_
    refine TL.yld rfl rfl (yld_move rfl rfl) ?_
    refine TL.yld rfl rfl (yld_move rfl rfl) ?_
    refine TL.yld rfl rfl (ye_len (c := C_Clock) rfl Tryd.underlying25 rfl ha7) ?_
    obtain ⟨r51, hr52, hF⟩ := bsome hF
    refine TL.eff rfl rfl (eff_call rfl gf_69 rfl (W_spec_l01Next hr52 hb18 ha2 (by omega) (by omega))) ?_
    rintro _ w53 ⟨rfl, hb55, hx54⟩
    have he56 : But (pB b0_) w w53 := But.but he19 hx54 (all_pB (Or.inl rfl))
    have ha7 := slRep.but ha7 hx54 (all_pB (by omega)) (by omega)
    have ha2 := slRep.but ha2 hx54 (all_pB (by omega)) (by omega)
    have hz57 := (hx54).size
    refine TL.yld rfl rfl (yld_assign rfl rfl) ?_
    refine TL.done ?_
    refine NX.seq ?_
    refine WC.ret' ?_
    obtain rfl := Option.some.inj hF
    exact NX.end (rs := [.tmp 4]) (vs := [.int .i64 r51.1]) rfl ⟨rfl, trivial⟩ ⟨_, rfl, rfl, hb55, he56⟩

-- loop.example/g00861/spec.DrawPulseWidths
def F_spec_DrawPulseWidths (n : Nat) (a0_code : List Int) : Option ((List S_Clock) × Int) := (Option.bind (F_spec_l01From n a0_code) fun r3 => (Option.bind (F_spec_l14Draw n ((S_l01Source.mk a0_code r3.at_ r3.seed_))) fun r12 => (Option.bind (F_spec_l14DrawIndex n ((S_l01Source.mk a0_code r12.2.at_ r12.2.seed_)) r12.1) fun r23 => (some (r12.1, r23.1)))))
set_option maxHeartbeats 40000000 in
theorem W_spec_DrawPulseWidths {n : Nat} {a0_code : List Int} {r : (List S_Clock) × Int} {w : World} {v1 : Value} (hF : F_spec_DrawPulseWidths n a0_code = some r) (ha2 : slRep (cInt .u8) w (Iv 0 w.heap.size) a0_code v1) :
    Calls Tryd.prog 23 [v1].toArray w (Ret fun u w2 => ∃ v0_0, u = .tuple #[v0_0, .int .i64 r.2] ∧ ownR C_Clock w2 w.heap.size (Iv 0 0) 45 r.1 v0_0 ∧ Ext w w2) := by
  refine calls_of Tryd.func23 rfl Tryd.ntmps23 ?_
  have he0 : Ext w w := Ext.refl w
  unfold F_spec_DrawPulseWidths at hF
  refine WC.seq ?_
  refine WC.region ?_
  refine TL.yld rfl rfl (yld_assign rfl rfl) ?_
  refine TL.yld rfl rfl (yld_assign rfl rfl) ?_
  refine TL.done ?_
  refine NX.seq ?_
  refine WC.seq ?_
  refine WC.region ?_
  refine TL.yld rfl rfl (yld_move rfl rfl) ?_
  obtain ⟨r3, hr4, hF⟩ := bsome hF
  refine TL.eff rfl rfl (eff_call rfl gf_56 rfl (W_spec_l01From hr4 ((slRep.old ha2 he0 (Nat.le_refl _)).wide (Nat.le_refl _) (he0).size))) ?_
  rintro _ w5 ⟨b7, rfl, hb8, hlo9, hx6⟩
  have he10 : Ext w w5 := Ext.trans he0 hx6
  have hz11 := (hx6).size
  have := hlo9
  have := Box.lt hb8
  refine TL.yld rfl rfl (yld_assign rfl rfl) ?_
  refine TL.done ?_
  refine NX.seq ?_
  refine WC.seq ?_
  refine WC.region ?_
  refine TL.yld rfl rfl (yld_move rfl rfl) ?_
  obtain ⟨r12, hr13, hF⟩ := bsome hF
  refine TL.eff rfl rfl (eff_call rfl gf_57 rfl (W_spec_l14Draw hr13 hb8 (slRep.old ha2 he10 (Nat.le_refl _)) (by omega) (by omega))) ?_
  rintro v16 w14 ⟨_, rfl, hs17, hb20, hx15⟩
  have he21 : Ext w w14 := Below.trans he10 (But.below hx15 (all_pB (by omega)) (he10).size)
  have hz22 := (hx15).size
  have hbd19 := ownR.blk hs17
  refine TL.yld rfl rfl (yld_assign rfl rfl) ?_
  refine TL.done ?_
  refine NX.seq ?_
  refine WC.seq ?_
  refine WC.region ?_
  refine TL.yld rfl rfl (yld_move rfl rfl) ?_
  refine TL.yld rfl rfl (yld_move rfl rfl) ?_
  refine TL.yld rfl rfl (yld_move rfl rfl) ?_
  obtain ⟨r23, hr24, hF⟩ := bsome hF
  refine TL.eff rfl rfl (eff_call rfl gf_58 rfl (W_spec_l14DrawIndex hr24 hb20 (slRep.old ha2 he21 (Nat.le_refl _)) (by omega) (by omega) (ownR.slb hs17 hbd19) (by omega) (by have := trivial; omega))) ?_
  rintro _ w25 ⟨rfl, hb27, hx26⟩
  have he28 : Ext w w25 := Below.trans he21 (But.below hx26 (all_pB (by omega)) (he21).size)
  have hp29 : ∀ g, v16.ownBlock = some g → g ≠ b7 := (fun g hg => by have := hbd19 g hg; omega)
  have hs17 := ownR.butF hs17 hx26 (all_pB (fun g hg e => hp29 g hg e.symm))
  have hz30 := (hx26).size
  refine TL.yld rfl rfl (yld_assign rfl rfl) ?_
  refine TL.yld rfl rfl (yld_assign rfl rfl) ?_
  refine TL.done ?_
  refine NX.seq ?_
  refine WC.ret' ?_
  obtain rfl := Option.some.inj hF
  exact NX.end (rs := [.tmp 2, .tmp 3]) (vs := [v16, .int .i64 r23.1]) rfl ⟨rfl, rfl, trivial⟩ ⟨_, rfl, _, rfl, ownR.base hs17 (by omega), he28⟩

-- loop.example/g00861/impl.waveOf
def F_impl_waveOf : Nat → (List S_Clock) → Int → Option S_wave
  | 0 => fun _ _ => none
  | n + 1 => fun a0_list a1_k => (Option.bind (getI a0_list a1_k) fun x10 => (bif decide (x10.Source < 0) then (some ((S_wave.mk x10.Period ((A2_Int.mk x10.RiseAt x10.FallAt))))) else (Option.bind (F_impl_waveOf n a0_list x10.Source) fun r37 => (bif decide (x10.Divide > 1) then (bif x10.Invert then (some ((S_wave.mk (IntKind.wrap IntKind.i64 (x10.Divide * r37.period_)) ((A2_Int.mk (IntKind.wrap IntKind.i64 (r37.edges_.e0 + (IntKind.wrap IntKind.i64 ((IntKind.wrap IntKind.i64 (Int.tdiv x10.Divide 2)) * r37.period_)))) r37.edges_.e0))))) else (some ((S_wave.mk (IntKind.wrap IntKind.i64 (x10.Divide * r37.period_)) ((A2_Int.mk r37.edges_.e0 (IntKind.wrap IntKind.i64 (r37.edges_.e0 + (IntKind.wrap IntKind.i64 ((IntKind.wrap IntKind.i64 (Int.tdiv x10.Divide 2)) * r37.period_)))))))))) else (bif x10.Invert then (some ((S_wave.mk r37.period_ ((A2_Int.mk r37.edges_.e1 r37.edges_.e0))))) else (some r37))))))
theorem F_impl_waveOf_z (a0_list : List S_Clock) (a1_k : Int) : F_impl_waveOf 0 a0_list a1_k = none := rfl
theorem F_impl_waveOf_s (n : Nat) (a0_list : List S_Clock) (a1_k : Int) : F_impl_waveOf (n + 1) a0_list a1_k = (Option.bind (getI a0_list a1_k) fun x10 => (bif decide (x10.Source < 0) then (some ((S_wave.mk x10.Period ((A2_Int.mk x10.RiseAt x10.FallAt))))) else (Option.bind (F_impl_waveOf n a0_list x10.Source) fun r37 => (bif decide (x10.Divide > 1) then (bif x10.Invert then (some ((S_wave.mk (IntKind.wrap IntKind.i64 (x10.Divide * r37.period_)) ((A2_Int.mk (IntKind.wrap IntKind.i64 (r37.edges_.e0 + (IntKind.wrap IntKind.i64 ((IntKind.wrap IntKind.i64 (Int.tdiv x10.Divide 2)) * r37.period_)))) r37.edges_.e0))))) else (some ((S_wave.mk (IntKind.wrap IntKind.i64 (x10.Divide * r37.period_)) ((A2_Int.mk r37.edges_.e0 (IntKind.wrap IntKind.i64 (r37.edges_.e0 + (IntKind.wrap IntKind.i64 ((IntKind.wrap IntKind.i64 (Int.tdiv x10.Divide 2)) * r37.period_)))))))))) else (bif x10.Invert then (some ((S_wave.mk r37.period_ ((A2_Int.mk r37.edges_.e1 r37.edges_.e0))))) else (some r37)))))) := rfl
set_option maxHeartbeats 40000000 in
theorem W_impl_waveOf {n : Nat} {a0_list : List S_Clock} {a1_k : Int} {r : S_wave} {w : World} {v1 : Value} (hF : F_impl_waveOf n a0_list a1_k = some r) (ha2 : slRep C_Clock w (Iv 0 w.heap.size) a0_list v1) :
    Calls Tryd.prog 55 [v1, .int .i64 a1_k].toArray w (Ret fun u w2 => u = .agg #[.int .i64 r.period_, .int .i64 r.edges_.e0, .int .i64 r.edges_.e1] ∧ Ext w w2) := by
  cases n with
  | zero => rw [F_impl_waveOf_z] at hF; cases hF
  | succ n =>
    refine calls_of Tryd.func55 rfl Tryd.ntmps55 ?_
    have he0 : Ext w w := Ext.refl w
    rw [F_impl_waveOf_s] at hF
    refine WC.seq ?_
    refine WC.region ?_
    refine TL.eff rfl rfl (eff_alloc rfl zn_71) ?_
    rintro _ w4 ⟨b3, rfl, hn5⟩
    obtain ⟨hn5e, hn5s, hn5x, hb6⟩ := hn5
    have hb6 : Box w4 b3 [.int .i64 0, .int .i64 0, .int .i64 0] 71 := hb6
    have he8 : Ext w w4 := Ext.trans he0 hn5x
    have hz9 := (hn5x).size
    have hlo7 : w.heap.size ≤ b3 := by rw [hn5e]; exact (he0).size
    refine TL.done ?_
    refine NX.seq ?_
    refine WC.seq ?_
    refine WC.region ?_
    refine TL.yld rfl rfl (yld_move rfl rfl) ?_
    refine TL.yld rfl rfl (yld_move rfl rfl) ?_
    obtain ⟨x10, hy11, hF⟩ := bsome hF
    refine TL.ye rfl rfl (ye_index (c := C_Clock) rfl Tryd.underlying25 cn_45 rfl rfl (slRep.old ha2 he8 (Nat.le_refl _)) hy11) ?_
    rintro _ ⟨b12, o13, us14, rfl, hib17, hr15, hcl16⟩
    have hib17 : 0 ≤ b12 ∧ b12 < w.heap.size := ⟨hib17.1, by have := hib17.2; omega⟩
    obtain rfl := C_Clock_open hr15
    refine TL.yld rfl rfl (yld_loadN (us := [.string x10.Name, .int .i64 x10.Place, .int .i64 x10.Period, .int .i64 x10.RiseAt, .int .i64 x10.FallAt, .int .i64 x10.Source, .int .i64 x10.Divide, .bool x10.Invert, .int .i64 x10.EarlyLatency, .int .i64 x10.LateLatency, .int .i64 x10.Uncertainty]) rfl ag_45 rfl hcl16 cn_45) ?_
    refine TL.eff rfl rfl (eff_alloc rfl zn_45) ?_
    rintro _ w19 ⟨b18, rfl, hn20⟩
    obtain ⟨hn20e, hn20s, hn20x, hb21⟩ := hn20
    have hb21 : Box w19 b18 [.string ByteArray.empty, .int .i64 0, .int .i64 0, .int .i64 0, .int .i64 0, .int .i64 0, .int .i64 0, .bool false, .int .i64 0, .int .i64 0, .int .i64 0] 45 := hb21
    have he23 : Ext w w19 := Ext.trans he8 hn20x
    have hb6 := Box.ext hb6 hn20x
    have hz24 := (hn20x).size
    have hlo22 : w.heap.size ≤ b18 := by rw [hn20e]; exact (he8).size
    refine TL.eff rfl rfl (eff_store rfl rfl rfl hb21 cn_45 rfl rfl) ?_
    rintro _ w25 ⟨hu26, hb27⟩
    have he28 : Ext w w25 := Below.trans he23 (Upd.below hu26 (by omega))
    have hb6 := Box.upd hb6 hu26 (by omega)
    have hz29 := (hu26).size
    have hb21 : Box w25 b18 [.string x10.Name, .int .i64 x10.Place, .int .i64 x10.Period, .int .i64 x10.RiseAt, .int .i64 x10.FallAt, .int .i64 x10.Source, .int .i64 x10.Divide, .bool x10.Invert, .int .i64 x10.EarlyLatency, .int .i64 x10.LateLatency, .int .i64 x10.Uncertainty] 45 := hb27
    refine TL.done ?_
    refine NX.seq ?_
    refine WC.seq ?_
    refine WC.seq ?_
    refine WC.region ?_
    refine TL.yld rfl rfl (yld_fieldAddr rfl fo_45_5 rfl) ?_
    refine TL.yld rfl rfl (yld_load1 5 rfl ag_2 rfl (Box.cells hb21) rfl rfl) ?_
    refine TL.yld rfl rfl (yld_lss rfl rfl rfl) ?_
    refine TL.done ?_
    refine NX.seq ?_
    refine WC.cond rfl ?_ ?_
    · intro hc30
      replace hF := bif_t hc30 hF
      refine WC.seq ?_
      refine WC.region ?_
      refine TL.yld rfl rfl (yld_fieldAddr rfl fo_45_2 rfl) ?_
      refine TL.yld rfl rfl (yld_load1 2 rfl ag_2 rfl (Box.cells hb21) rfl rfl) ?_
      refine TL.yld rfl rfl (yld_fieldAddr rfl fo_45_3 rfl) ?_
      refine TL.yld rfl rfl (yld_load1 3 rfl ag_2 rfl (Box.cells hb21) rfl rfl) ?_
      refine TL.yld rfl rfl (yld_fieldAddr rfl fo_45_4 rfl) ?_
      refine TL.yld rfl rfl (yld_load1 4 rfl ag_2 rfl (Box.cells hb21) rfl rfl) ?_
      refine TL.yld rfl rfl (yld_build (uss := [(0, [.int .i64 x10.RiseAt]), (1, [.int .i64 x10.FallAt])]) (out := [.int .i64 x10.RiseAt, .int .i64 x10.FallAt]) rfl rfl zn_69 pl_69 rfl rfl) ?_
      refine TL.yld rfl rfl (yld_build (uss := [(0, [.int .i64 x10.Period]), (1, [.int .i64 x10.RiseAt, .int .i64 x10.FallAt])]) (out := [.int .i64 x10.Period, .int .i64 x10.RiseAt, .int .i64 x10.FallAt]) rfl rfl zn_71 pl_71 rfl rfl) ?_
      refine TL.eff rfl rfl (eff_store rfl rfl rfl hb6 cn_71 rfl rfl) ?_
      rintro _ w31 ⟨hu32, hb33⟩
      have he34 : Ext w w31 := Below.trans he28 (Upd.below hu32 (by omega))
      have hb21 := Box.upd hb21 hu32 (by omega)
      have hz35 := (hu32).size
      have hb6 : Box w31 b3 [.int .i64 x10.Period, .int .i64 x10.RiseAt, .int .i64 x10.FallAt] 71 := hb33
      refine TL.done ?_
      refine NX.seq ?_
      refine WC.ret' ?_
      refine NX.then_r ?_
      obtain rfl := Option.some.inj hF
      exact NX.end (rs := [.cell 4 71]) (vs := [.agg #[.int .i64 x10.Period, .int .i64 x10.RiseAt, .int .i64 x10.FallAt]]) rfl ⟨⟨b3, rfl, box_load ag_71 cn_71 hb6⟩, trivial⟩ ⟨_, rfl, rfl, he34⟩
    · intro hc36
      replace hF := bif_f hc36 hF
      refine WC.skip' ?_
      refine NX.seq ?_
      refine WC.seq ?_
      refine WC.region ?_
      refine TL.yld rfl rfl (yld_move rfl rfl) ?_
      refine TL.yld rfl rfl (yld_fieldAddr rfl fo_45_5 rfl) ?_
      refine TL.yld rfl rfl (yld_load1 5 rfl ag_2 rfl (Box.cells hb21) rfl rfl) ?_
      obtain ⟨r37, hr38, hF⟩ := bsome hF
      refine TL.eff rfl rfl (eff_call rfl gf_55 rfl (W_impl_waveOf hr38 ((slRep.old ha2 he28 (Nat.le_refl _)).wide (Nat.le_refl _) (he28).size))) ?_
      rintro _ w39 ⟨rfl, hx40⟩
      have he41 : Ext w w39 := Ext.trans he28 hx40
      have hb6 := Box.ext hb6 hx40
      have hb21 := Box.ext hb21 hx40
      have hz42 := (hx40).size
      refine TL.eff rfl rfl (eff_alloc rfl zn_71) ?_
      rintro _ w44 ⟨b43, rfl, hn45⟩
      obtain ⟨hn45e, hn45s, hn45x, hb46⟩ := hn45
      have hb46 : Box w44 b43 [.int .i64 0, .int .i64 0, .int .i64 0] 71 := hb46
      have he48 : Ext w w44 := Ext.trans he41 hn45x
      have hb6 := Box.ext hb6 hn45x
      have hb21 := Box.ext hb21 hn45x
      have hz49 := (hn45x).size
      have hlo47 : w.heap.size ≤ b43 := by rw [hn45e]; exact (he41).size
      refine TL.eff rfl rfl (eff_store rfl rfl rfl hb46 cn_71 rfl rfl) ?_
      rintro _ w50 ⟨hu51, hb52⟩
      have he53 : Ext w w50 := Below.trans he48 (Upd.below hu51 (by omega))
      have hb6 := Box.upd hb6 hu51 (by omega)
      have hb21 := Box.upd hb21 hu51 (by omega)
      have hz54 := (hu51).size
      have hb46 : Box w50 b43 [.int .i64 r37.period_, .int .i64 r37.edges_.e0, .int .i64 r37.edges_.e1] 71 := hb52
      refine TL.done ?_
      refine NX.seq ?_
      refine WC.seq ?_
      refine WC.seq ?_
      refine WC.region ?_
      refine TL.yld rfl rfl (yld_fieldAddr rfl fo_45_6 rfl) ?_
      refine TL.yld rfl rfl (yld_load1 6 rfl ag_2 rfl (Box.cells hb21) rfl rfl) ?_
      refine TL.yld rfl rfl (yld_gtr rfl rfl rfl) ?_
      refine TL.done ?_
      refine NX.seq ?_
      refine WC.cond rfl ?_ ?_
      · intro hc55
        replace hF := bif_t hc55 hF
        refine WC.seq ?_
        refine WC.region ?_
        refine TL.yld rfl rfl (yld_fieldAddr rfl fo_71_1 rfl) ?_
        refine TL.yld rfl rfl (yld_indexArr rfl Tryd.underlying69 cn_2 rfl rfl (by decide)) ?_
        refine TL.yld rfl rfl (yld_load1 1 rfl ag_2 rfl (Box.cells hb46) rfl rfl) ?_
        refine TL.yld rfl rfl (yld_assign rfl rfl) ?_
        refine TL.done ?_
        refine NX.seq ?_
        refine WC.region ?_
        refine TL.yld rfl rfl (yld_fieldAddr rfl fo_45_6 rfl) ?_
        refine TL.yld rfl rfl (yld_load1 6 rfl ag_2 rfl (Box.cells hb21) rfl rfl) ?_
        refine TL.yld rfl rfl (yld_fieldAddr rfl fo_71_0 rfl) ?_
        refine TL.yld rfl rfl (yld_load1 0 rfl ag_2 rfl (Box.cells hb46) rfl rfl) ?_
        refine TL.yld rfl rfl (yld_mul rfl rfl rfl) ?_
        refine TL.yld rfl rfl (yld_move rfl rfl) ?_
        refine TL.yld rfl rfl (yld_move rfl rfl) ?_
        refine TL.yld rfl rfl (yld_fieldAddr rfl fo_45_6 rfl) ?_
        refine TL.yld rfl rfl (yld_load1 6 rfl ag_2 rfl (Box.cells hb21) rfl rfl) ?_
        refine TL.yld rfl rfl (yld_quo rfl rfl rfl (by decide)) ?_
        refine TL.yld rfl rfl (yld_fieldAddr rfl fo_71_0 rfl) ?_
        refine TL.yld rfl rfl (yld_load1 0 rfl ag_2 rfl (Box.cells hb46) rfl rfl) ?_
        refine TL.yld rfl rfl (yld_mul rfl rfl rfl) ?_
        refine TL.yld rfl rfl (yld_add rfl rfl rfl) ?_
        refine TL.yld rfl rfl (yld_build (uss := [(0, [.int .i64 r37.edges_.e0]), (1, [.int .i64 (IntKind.wrap IntKind.i64 (r37.edges_.e0 + (IntKind.wrap IntKind.i64 ((IntKind.wrap IntKind.i64 (Int.tdiv x10.Divide 2)) * r37.period_))))])]) (out := [.int .i64 r37.edges_.e0, .int .i64 (IntKind.wrap IntKind.i64 (r37.edges_.e0 + (IntKind.wrap IntKind.i64 ((IntKind.wrap IntKind.i64 (Int.tdiv x10.Divide 2)) * r37.period_))))]) rfl rfl zn_69 pl_69 rfl rfl) ?_
        refine TL.yld rfl rfl (yld_build (uss := [(0, [.int .i64 (IntKind.wrap IntKind.i64 (x10.Divide * r37.period_))]), (1, [.int .i64 r37.edges_.e0, .int .i64 (IntKind.wrap IntKind.i64 (r37.edges_.e0 + (IntKind.wrap IntKind.i64 ((IntKind.wrap IntKind.i64 (Int.tdiv x10.Divide 2)) * r37.period_))))])]) (out := [.int .i64 (IntKind.wrap IntKind.i64 (x10.Divide * r37.period_)), .int .i64 r37.edges_.e0, .int .i64 (IntKind.wrap IntKind.i64 (r37.edges_.e0 + (IntKind.wrap IntKind.i64 ((IntKind.wrap IntKind.i64 (Int.tdiv x10.Divide 2)) * r37.period_))))]) rfl rfl zn_71 pl_71 rfl rfl) ?_
        refine TL.eff rfl rfl (eff_store rfl rfl rfl hb46 cn_71 rfl rfl) ?_
        rintro _ w56 ⟨hu57, hb58⟩
        have he59 : Ext w w56 := Below.trans he53 (Upd.below hu57 (by omega))
        have hb6 := Box.upd hb6 hu57 (by omega)
        have hb21 := Box.upd hb21 hu57 (by omega)
        have hz60 := (hu57).size
        have hb46 : Box w56 b43 [.int .i64 (IntKind.wrap IntKind.i64 (x10.Divide * r37.period_)), .int .i64 r37.edges_.e0, .int .i64 (IntKind.wrap IntKind.i64 (r37.edges_.e0 + (IntKind.wrap IntKind.i64 ((IntKind.wrap IntKind.i64 (Int.tdiv x10.Divide 2)) * r37.period_))))] 71 := hb58
        refine TL.done ?_
        refine NX.seq ?_
        refine WC.seq ?_
        refine WC.seq ?_
        refine WC.region ?_
        refine TL.yld rfl rfl (yld_fieldAddr rfl fo_45_7 rfl) ?_
        refine TL.yld rfl rfl (yld_load1 7 rfl ag_4 rfl (Box.cells hb21) rfl rfl) ?_
        refine TL.done ?_
        refine NX.seq ?_
        refine WC.cond rfl ?_ ?_
        · intro hc61
          replace hF := bif_t hc61 hF
          refine WC.region ?_
          refine TL.yld rfl rfl (yld_fieldAddr rfl fo_71_1 rfl) ?_
          refine TL.yld rfl rfl (yld_indexArr rfl Tryd.underlying69 cn_2 rfl rfl (by decide)) ?_
          refine TL.yld rfl rfl (yld_load1 2 rfl ag_2 rfl (Box.cells hb46) rfl rfl) ?_
          refine TL.yld rfl rfl (yld_fieldAddr rfl fo_71_1 rfl) ?_
          refine TL.yld rfl rfl (yld_indexArr rfl Tryd.underlying69 cn_2 rfl rfl (by decide)) ?_
          refine TL.yld rfl rfl (yld_load1 1 rfl ag_2 rfl (Box.cells hb46) rfl rfl) ?_
          refine TL.yld rfl rfl (yld_fieldAddr rfl fo_71_1 rfl) ?_
          refine TL.yld rfl rfl (yld_indexArr rfl Tryd.underlying69 cn_2 rfl rfl (by decide)) ?_
          refine TL.eff rfl rfl (eff_store rfl rfl rfl hb46 cn_2 rfl rfl) ?_
          rintro _ w62 ⟨hu63, hb64⟩
          have he65 : Ext w w62 := Below.trans he59 (Upd.below hu63 (by omega))
          have hb6 := Box.upd hb6 hu63 (by omega)
          have hb21 := Box.upd hb21 hu63 (by omega)
          have hz66 := (hu63).size
          have hb46 : Box w62 b43 [.int .i64 (IntKind.wrap IntKind.i64 (x10.Divide * r37.period_)), .int .i64 (IntKind.wrap IntKind.i64 (r37.edges_.e0 + (IntKind.wrap IntKind.i64 ((IntKind.wrap IntKind.i64 (Int.tdiv x10.Divide 2)) * r37.period_)))), .int .i64 (IntKind.wrap IntKind.i64 (r37.edges_.e0 + (IntKind.wrap IntKind.i64 ((IntKind.wrap IntKind.i64 (Int.tdiv x10.Divide 2)) * r37.period_))))] 71 := hb64
          refine TL.yld rfl rfl (yld_fieldAddr rfl fo_71_1 rfl) ?_
          refine TL.yld rfl rfl (yld_indexArr rfl Tryd.underlying69 cn_2 rfl rfl (by decide)) ?_
          refine TL.eff rfl rfl (eff_store rfl rfl rfl hb46 cn_2 rfl rfl) ?_
          rintro _ w67 ⟨hu68, hb69⟩
          have he70 : Ext w w67 := Below.trans he65 (Upd.below hu68 (by omega))
          have hb6 := Box.upd hb6 hu68 (by omega)
          have hb21 := Box.upd hb21 hu68 (by omega)
          have hz71 := (hu68).size
          have hb46 : Box w67 b43 [.int .i64 (IntKind.wrap IntKind.i64 (x10.Divide * r37.period_)), .int .i64 (IntKind.wrap IntKind.i64 (r37.edges_.e0 + (IntKind.wrap IntKind.i64 ((IntKind.wrap IntKind.i64 (Int.tdiv x10.Divide 2)) * r37.period_)))), .int .i64 r37.edges_.e0] 71 := hb69
          refine TL.done ?_
          refine NX.seq ?_
          refine WC.seq ?_
          refine WC.region ?_
          refine TL.yld rfl rfl (yld_loadN (us := [.int .i64 (IntKind.wrap IntKind.i64 (x10.Divide * r37.period_)), .int .i64 (IntKind.wrap IntKind.i64 (r37.edges_.e0 + (IntKind.wrap IntKind.i64 ((IntKind.wrap IntKind.i64 (Int.tdiv x10.Divide 2)) * r37.period_)))), .int .i64 r37.edges_.e0]) rfl ag_71 rfl (Box.cells hb46) cn_71) ?_
          refine TL.eff rfl rfl (eff_store rfl rfl rfl hb6 cn_71 rfl rfl) ?_
          rintro _ w72 ⟨hu73, hb74⟩
          have he75 : Ext w w72 := Below.trans he70 (Upd.below hu73 (by omega))
          have hb21 := Box.upd hb21 hu73 (by omega)
          have hb46 := Box.upd hb46 hu73 (by omega)
          have hz76 := (hu73).size
          have hb6 : Box w72 b3 [.int .i64 (IntKind.wrap IntKind.i64 (x10.Divide * r37.period_)), .int .i64 (IntKind.wrap IntKind.i64 (r37.edges_.e0 + (IntKind.wrap IntKind.i64 ((IntKind.wrap IntKind.i64 (Int.tdiv x10.Divide 2)) * r37.period_)))), .int .i64 r37.edges_.e0] 71 := hb74
          refine TL.done ?_
          refine NX.seq ?_
          refine WC.ret' ?_
          obtain rfl := Option.some.inj hF
          exact NX.end (rs := [.cell 4 71]) (vs := [.agg #[.int .i64 (IntKind.wrap IntKind.i64 (x10.Divide * r37.period_)), .int .i64 (IntKind.wrap IntKind.i64 (r37.edges_.e0 + (IntKind.wrap IntKind.i64 ((IntKind.wrap IntKind.i64 (Int.tdiv x10.Divide 2)) * r37.period_)))), .int .i64 r37.edges_.e0]]) rfl ⟨⟨b3, rfl, box_load ag_71 cn_71 hb6⟩, trivial⟩ ⟨_, rfl, rfl, he75⟩
        · intro hc77
          replace hF := bif_f hc77 hF
          refine WC.skip' ?_
          refine NX.seq ?_
          refine WC.seq ?_
          refine WC.region ?_
          refine TL.yld rfl rfl (yld_loadN (us := [.int .i64 (IntKind.wrap IntKind.i64 (x10.Divide * r37.period_)), .int .i64 r37.edges_.e0, .int .i64 (IntKind.wrap IntKind.i64 (r37.edges_.e0 + (IntKind.wrap IntKind.i64 ((IntKind.wrap IntKind.i64 (Int.tdiv x10.Divide 2)) * r37.period_))))]) rfl ag_71 rfl (Box.cells hb46) cn_71) ?_
          refine TL.eff rfl rfl (eff_store rfl rfl rfl hb6 cn_71 rfl rfl) ?_
          rintro _ w78 ⟨hu79, hb80⟩
          have he81 : Ext w w78 := Below.trans he59 (Upd.below hu79 (by omega))
          have hb21 := Box.upd hb21 hu79 (by omega)
          have hb46 := Box.upd hb46 hu79 (by omega)
          have hz82 := (hu79).size
          have hb6 : Box w78 b3 [.int .i64 (IntKind.wrap IntKind.i64 (x10.Divide * r37.period_)), .int .i64 r37.edges_.e0, .int .i64 (IntKind.wrap IntKind.i64 (r37.edges_.e0 + (IntKind.wrap IntKind.i64 ((IntKind.wrap IntKind.i64 (Int.tdiv x10.Divide 2)) * r37.period_))))] 71 := hb80
          refine TL.done ?_
          refine NX.seq ?_
          refine WC.ret' ?_
          obtain rfl := Option.some.inj hF
          exact NX.end (rs := [.cell 4 71]) (vs := [.agg #[.int .i64 (IntKind.wrap IntKind.i64 (x10.Divide * r37.period_)), .int .i64 r37.edges_.e0, .int .i64 (IntKind.wrap IntKind.i64 (r37.edges_.e0 + (IntKind.wrap IntKind.i64 ((IntKind.wrap IntKind.i64 (Int.tdiv x10.Divide 2)) * r37.period_))))]]) rfl ⟨⟨b3, rfl, box_load ag_71 cn_71 hb6⟩, trivial⟩ ⟨_, rfl, rfl, he81⟩
      · intro hc83
        replace hF := bif_f hc83 hF
        refine WC.skip' ?_
        refine NX.seq ?_
        refine WC.seq ?_
        refine WC.seq ?_
        refine WC.region ?_
        refine TL.yld rfl rfl (yld_fieldAddr rfl fo_45_7 rfl) ?_
        refine TL.yld rfl rfl (yld_load1 7 rfl ag_4 rfl (Box.cells hb21) rfl rfl) ?_
        refine TL.done ?_
        refine NX.seq ?_
        refine WC.cond rfl ?_ ?_
        · intro hc84
          replace hF := bif_t hc84 hF
          refine WC.region ?_
          refine TL.yld rfl rfl (yld_fieldAddr rfl fo_71_1 rfl) ?_
          refine TL.yld rfl rfl (yld_indexArr rfl Tryd.underlying69 cn_2 rfl rfl (by decide)) ?_
          refine TL.yld rfl rfl (yld_load1 2 rfl ag_2 rfl (Box.cells hb46) rfl rfl) ?_
          refine TL.yld rfl rfl (yld_fieldAddr rfl fo_71_1 rfl) ?_
          refine TL.yld rfl rfl (yld_indexArr rfl Tryd.underlying69 cn_2 rfl rfl (by decide)) ?_
          refine TL.yld rfl rfl (yld_load1 1 rfl ag_2 rfl (Box.cells hb46) rfl rfl) ?_
          refine TL.yld rfl rfl (yld_fieldAddr rfl fo_71_1 rfl) ?_
          refine TL.yld rfl rfl (yld_indexArr rfl Tryd.underlying69 cn_2 rfl rfl (by decide)) ?_
          refine TL.eff rfl rfl (eff_store rfl rfl rfl hb46 cn_2 rfl rfl) ?_
          rintro _ w85 ⟨hu86, hb87⟩
          have he88 : Ext w w85 := Below.trans he53 (Upd.below hu86 (by omega))
          have hb6 := Box.upd hb6 hu86 (by omega)
          have hb21 := Box.upd hb21 hu86 (by omega)
          have hz89 := (hu86).size
          have hb46 : Box w85 b43 [.int .i64 r37.period_, .int .i64 r37.edges_.e1, .int .i64 r37.edges_.e1] 71 := hb87
          refine TL.yld rfl rfl (yld_fieldAddr rfl fo_71_1 rfl) ?_
          refine TL.yld rfl rfl (yld_indexArr rfl Tryd.underlying69 cn_2 rfl rfl (by decide)) ?_
          refine TL.eff rfl rfl (eff_store rfl rfl rfl hb46 cn_2 rfl rfl) ?_
          rintro _ w90 ⟨hu91, hb92⟩
          have he93 : Ext w w90 := Below.trans he88 (Upd.below hu91 (by omega))
          have hb6 := Box.upd hb6 hu91 (by omega)
          have hb21 := Box.upd hb21 hu91 (by omega)
          have hz94 := (hu91).size
          have hb46 : Box w90 b43 [.int .i64 r37.period_, .int .i64 r37.edges_.e1, .int .i64 r37.edges_.e0] 71 := hb92
          refine TL.done ?_
          refine NX.seq ?_
          refine WC.seq ?_
          refine WC.region ?_
          refine TL.yld rfl rfl (yld_loadN (us := [.int .i64 r37.period_, .int .i64 r37.edges_.e1, .int .i64 r37.edges_.e0]) rfl ag_71 rfl (Box.cells hb46) cn_71) ?_
          refine TL.eff rfl rfl (eff_store rfl rfl rfl hb6 cn_71 rfl rfl) ?_
          rintro _ w95 ⟨hu96, hb97⟩
          have he98 : Ext w w95 := Below.trans he93 (Upd.below hu96 (by omega))
          have hb21 := Box.upd hb21 hu96 (by omega)
          have hb46 := Box.upd hb46 hu96 (by omega)
          have hz99 := (hu96).size
          have hb6 : Box w95 b3 [.int .i64 r37.period_, .int .i64 r37.edges_.e1, .int .i64 r37.edges_.e0] 71 := hb97
          refine TL.done ?_
          refine NX.seq ?_
          refine WC.ret' ?_
          obtain rfl := Option.some.inj hF
          exact NX.end (rs := [.cell 4 71]) (vs := [.agg #[.int .i64 r37.period_, .int .i64 r37.edges_.e1, .int .i64 r37.edges_.e0]]) rfl ⟨⟨b3, rfl, box_load ag_71 cn_71 hb6⟩, trivial⟩ ⟨_, rfl, rfl, he98⟩
        · intro hc100
          replace hF := bif_f hc100 hF
          refine WC.skip' ?_
          refine NX.seq ?_
          refine WC.seq ?_
          refine WC.region ?_
          refine TL.yld rfl rfl (yld_loadN (us := [.int .i64 r37.period_, .int .i64 r37.edges_.e0, .int .i64 r37.edges_.e1]) rfl ag_71 rfl (Box.cells hb46) cn_71) ?_
          refine TL.eff rfl rfl (eff_store rfl rfl rfl hb6 cn_71 rfl rfl) ?_
          rintro _ w101 ⟨hu102, hb103⟩
          have he104 : Ext w w101 := Below.trans he53 (Upd.below hu102 (by omega))
          have hb21 := Box.upd hb21 hu102 (by omega)
          have hb46 := Box.upd hb46 hu102 (by omega)
          have hz105 := (hu102).size
          have hb6 : Box w101 b3 [.int .i64 r37.period_, .int .i64 r37.edges_.e0, .int .i64 r37.edges_.e1] 71 := hb103
          refine TL.done ?_
          refine NX.seq ?_
          refine WC.ret' ?_
          obtain rfl := Option.some.inj hF
          exact NX.end (rs := [.cell 4 71]) (vs := [.agg #[.int .i64 r37.period_, .int .i64 r37.edges_.e0, .int .i64 r37.edges_.e1]]) rfl ⟨⟨b3, rfl, box_load ag_71 cn_71 hb6⟩, trivial⟩ ⟨_, rfl, rfl, he104⟩
termination_by n

-- loop.example/g00861/impl.within
def F_impl_within (n : Nat) (a0_x : Int) (a1_low : Int) (a2_high : Int) : Option Bool := (some (((decide (a0_x ≥ a1_low)) && (decide (a0_x ≤ a2_high)))))
set_option maxHeartbeats 40000000 in
theorem W_impl_within {n : Nat} {a0_x : Int} {a1_low : Int} {a2_high : Int} {r : Bool} {w : World} (hF : F_impl_within n a0_x a1_low a2_high = some r) :
    Calls Tryd.prog 72 [.int .i64 a0_x, .int .i64 a1_low, .int .i64 a2_high].toArray w (Ret fun u w2 => u = .bool r ∧ Ext w w2) := by
  refine calls_of Tryd.func72 rfl Tryd.ntmps72 ?_
  have he0 : Ext w w := Ext.refl w
  unfold F_impl_within at hF
  refine WC.seq ?_
  refine WC.region ?_
  refine TL.yld rfl rfl (yld_assign rfl rfl) ?_
  refine TL.done ?_
  refine NX.seq ?_
  refine WC.seq ?_
  refine WC.region ?_
  refine TL.yld rfl rfl (yld_move rfl rfl) ?_
  refine TL.yld rfl rfl (yld_move rfl rfl) ?_
  refine TL.yld rfl rfl (yld_geq rfl rfl rfl) ?_
  refine TL.yld rfl rfl (yld_move rfl rfl) ?_
  refine TL.cut 4 [(14, .bool (((decide (a0_x ≥ a1_low)) && (decide (a0_x ≤ a2_high)))))] (fun w' => Ext w w') ?_ ?_
  · rcases Bool.eq_false_or_eq_true (decide (a0_x ≥ a1_low)) with hg1 | hg1
    ·
      refine TL.gy (j := 3) (t := 10) rfl rfl rfl hg1 rfl (yld_move rfl rfl) ?_
      refine TL.gy (j := 3) (t := 10) rfl rfl rfl hg1 rfl (yld_move rfl rfl) ?_
      refine TL.gy (j := 3) (t := 10) rfl rfl rfl hg1 rfl (yld_leq rfl rfl rfl) ?_
      refine TL.yld rfl rfl (yld_and_t rfl rfl hg1 rfl) ?_
      exact TL.nil fun a h => ⟨h.weaken ⟨rfl, trivial⟩, Ext.refl _⟩
    ·
      refine TL.gnu (j := 3) (t := 10) rfl rfl rfl hg1 rfl ?_
      refine TL.gnu (j := 3) (t := 10) rfl rfl rfl hg1 rfl ?_
      refine TL.gnu (j := 3) (t := 10) rfl rfl rfl hg1 rfl ?_
      refine TL.yld rfl rfl (yld_and_f (b2 := decide (a0_x ≤ a2_high)) rfl rfl hg1 rfl) ?_
      exact TL.nil fun a h => ⟨h.weaken ⟨rfl, trivial⟩, Ext.refl _⟩
  intro w2 hx3
  have he4 : Ext w w2 := Ext.trans he0 hx3
  have hz5 := (hx3).size
  refine TL.yld rfl rfl (yld_assign rfl rfl) ?_
  refine TL.done ?_
  refine NX.seq ?_
  refine WC.ret' ?_
  obtain rfl := Option.some.inj hF
  exact NX.end (rs := [.tmp 6]) (vs := [.bool (((decide (a0_x ≥ a1_low)) && (decide (a0_x ≤ a2_high))))]) rfl ⟨rfl, trivial⟩ ⟨_, rfl, rfl, he4⟩

-- (loop.example/g00861/impl.Clock).isPrimary
def F_impl_Clock_isPrimary (n : Nat) (a0_c : S_Clock) : Option Bool := (Option.bind (F_impl_within n a0_c.Period 2 100000) fun r8 => (Option.bind (bif r8 then (Option.bind (F_impl_within n a0_c.RiseAt 0 (IntKind.wrap IntKind.i64 (a0_c.Period - 1))) fun r14 => (some r14)) else (some false)) fun c14 => (Option.bind (bif c14 then (Option.bind (F_impl_within n a0_c.FallAt 0 (IntKind.wrap IntKind.i64 (a0_c.Period - 1))) fun r27 => (some r27)) else (some false)) fun c27 => (some ((((((c27 && ((a0_c.RiseAt != a0_c.FallAt)))) && ((a0_c.Divide == 1)))) && (!a0_c.Invert)))))))
set_option maxHeartbeats 40000000 in
theorem W_impl_Clock_isPrimary {n : Nat} {a0_c : S_Clock} {r : Bool} {w : World} (hF : F_impl_Clock_isPrimary n a0_c = some r) :
    Calls Tryd.prog 73 [.agg #[.string a0_c.Name, .int .i64 a0_c.Place, .int .i64 a0_c.Period, .int .i64 a0_c.RiseAt, .int .i64 a0_c.FallAt, .int .i64 a0_c.Source, .int .i64 a0_c.Divide, .bool a0_c.Invert, .int .i64 a0_c.EarlyLatency, .int .i64 a0_c.LateLatency, .int .i64 a0_c.Uncertainty]].toArray w (Ret fun u w2 => u = .bool r ∧ Ext w w2) := by
  refine calls_of Tryd.func73 rfl Tryd.ntmps73 ?_
  have he0 : Ext w w := Ext.refl w
  unfold F_impl_Clock_isPrimary at hF
  refine WC.seq ?_
  refine WC.region ?_
  refine TL.eff rfl rfl (eff_box rfl rfl) ?_
  rintro _ w2 ⟨b1, rfl, hn3⟩
  obtain ⟨hn3e, hn3s, hn3x, hb4⟩ := hn3
  have hb4 : Box w2 b1 [.string a0_c.Name, .int .i64 a0_c.Place, .int .i64 a0_c.Period, .int .i64 a0_c.RiseAt, .int .i64 a0_c.FallAt, .int .i64 a0_c.Source, .int .i64 a0_c.Divide, .bool a0_c.Invert, .int .i64 a0_c.EarlyLatency, .int .i64 a0_c.LateLatency, .int .i64 a0_c.Uncertainty] 45 := hb4
  have he6 : Ext w w2 := Ext.trans he0 hn3x
  have hz7 := (hn3x).size
  have hlo5 : w.heap.size ≤ b1 := by rw [hn3e]; exact (he0).size
  refine TL.yld rfl rfl (yld_assign rfl rfl) ?_
  refine TL.done ?_
  refine NX.seq ?_
  refine WC.seq ?_
  refine WC.region ?_
  refine TL.yld rfl rfl (yld_fieldAddr rfl fo_45_2 rfl) ?_
  refine TL.yld rfl rfl (yld_load1 2 rfl ag_2 rfl (Box.cells hb4) rfl rfl) ?_
  obtain ⟨r8, hr9, hF⟩ := bsome hF
  refine TL.eff rfl rfl (eff_call rfl gf_72 rfl (W_impl_within hr9)) ?_
  rintro _ w10 ⟨rfl, hx11⟩
  have he12 : Ext w w10 := Ext.trans he6 hx11
  have hb4 := Box.ext hb4 hx11
  have hz13 := (hx11).size
  refine TL.yld rfl rfl (yld_move rfl rfl) ?_
  obtain ⟨c14, hb15, hF⟩ := bsome hF
  refine TL.cut 7 [(1, .pointer (some ⟨b1, 0, none⟩)), (13, .bool c14)] (fun w' => Ext w10 w') ?_ ?_
  · rcases Bool.eq_false_or_eq_true r8 with hg16 | hg16
    ·
      rw [hg16] at hb15; simp only [cond_true, cond_false] at hb15
      replace hF := hb15
      refine TL.gy (j := 3) (t := 6) rfl rfl rfl hg16 rfl (yld_fieldAddr rfl fo_45_3 rfl) ?_
      refine TL.gy (j := 3) (t := 6) rfl rfl rfl hg16 rfl (yld_load1 3 rfl ag_2 rfl (Box.cells hb4) rfl rfl) ?_
      refine TL.gy (j := 3) (t := 6) rfl rfl rfl hg16 rfl (yld_fieldAddr rfl fo_45_2 rfl) ?_
      refine TL.gy (j := 3) (t := 6) rfl rfl rfl hg16 rfl (yld_load1 2 rfl ag_2 rfl (Box.cells hb4) rfl rfl) ?_
      refine TL.gy (j := 3) (t := 6) rfl rfl rfl hg16 rfl (yld_sub rfl rfl rfl) ?_
      obtain ⟨r17, hr18, hF⟩ := bsome hF
      refine TL.ge (j := 3) (t := 6) rfl rfl rfl hg16 rfl (eff_call rfl gf_72 rfl (W_impl_within hr18)) ?_
      rintro _ w19 ⟨rfl, hx20⟩
      have he21 : Ext w w19 := Ext.trans he12 hx20
      have hb4 := Box.ext hb4 hx20
      have hz22 := (hx20).size
      obtain rfl := Option.some.inj hF
      refine TL.yld rfl rfl (yld_pick_t rfl rfl hg16 rfl) ?_
      exact TL.nil fun a h => ⟨h.weaken ⟨rfl, rfl, trivial⟩, hx20⟩
    ·
      rw [hg16] at hb15; simp only [cond_true, cond_false] at hb15
      refine TL.gnu (j := 3) (t := 6) rfl rfl rfl hg16 rfl ?_
      refine TL.gnu (j := 3) (t := 6) rfl rfl rfl hg16 rfl ?_
      refine TL.gnu (j := 3) (t := 6) rfl rfl rfl hg16 rfl ?_
      refine TL.gnu (j := 3) (t := 6) rfl rfl rfl hg16 rfl ?_
      refine TL.gnu (j := 3) (t := 6) rfl rfl rfl hg16 rfl ?_
      refine TL.gnu (j := 3) (t := 6) rfl rfl rfl hg16 rfl ?_
      obtain rfl := Option.some.inj hb15
      refine TL.yld rfl rfl (yld_pick_f rfl rfl hg16 rfl) ?_
      exact TL.nil fun a h => ⟨h.weaken ⟨rfl, rfl, trivial⟩, Ext.refl _⟩
  intro w23 hx24
  have he25 : Ext w w23 := Ext.trans he12 hx24
  have hb4 := Box.ext hb4 hx24
  have hz26 := (hx24).size
  refine TL.yld rfl rfl (yld_move rfl rfl) ?_
  obtain ⟨c27, hb28, hF⟩ := bsome hF
  refine TL.cut 7 [(1, .pointer (some ⟨b1, 0, none⟩)), (21, .bool c27)] (fun w' => Ext w23 w') ?_ ?_
  · rcases Bool.eq_false_or_eq_true c14 with hg29 | hg29
    ·
      rw [hg29] at hb28; simp only [cond_true, cond_false] at hb28
      replace hF := hb28
      refine TL.gy (j := 11) (t := 14) rfl rfl rfl hg29 rfl (yld_fieldAddr rfl fo_45_4 rfl) ?_
      refine TL.gy (j := 11) (t := 14) rfl rfl rfl hg29 rfl (yld_load1 4 rfl ag_2 rfl (Box.cells hb4) rfl rfl) ?_
      refine TL.gy (j := 11) (t := 14) rfl rfl rfl hg29 rfl (yld_fieldAddr rfl fo_45_2 rfl) ?_
      refine TL.gy (j := 11) (t := 14) rfl rfl rfl hg29 rfl (yld_load1 2 rfl ag_2 rfl (Box.cells hb4) rfl rfl) ?_
      refine TL.gy (j := 11) (t := 14) rfl rfl rfl hg29 rfl (yld_sub rfl rfl rfl) ?_
      obtain ⟨r30, hr31, hF⟩ := bsome hF
      refine TL.ge (j := 11) (t := 14) rfl rfl rfl hg29 rfl (eff_call rfl gf_72 rfl (W_impl_within hr31)) ?_
      rintro _ w32 ⟨rfl, hx33⟩
      have he34 : Ext w w32 := Ext.trans he25 hx33
      have hb4 := Box.ext hb4 hx33
      have hz35 := (hx33).size
      obtain rfl := Option.some.inj hF
      refine TL.yld rfl rfl (yld_pick_t rfl rfl hg29 rfl) ?_
      exact TL.nil fun a h => ⟨h.weaken ⟨rfl, rfl, trivial⟩, hx33⟩
    ·
      rw [hg29] at hb28; simp only [cond_true, cond_false] at hb28
      refine TL.gnu (j := 11) (t := 14) rfl rfl rfl hg29 rfl ?_
      refine TL.gnu (j := 11) (t := 14) rfl rfl rfl hg29 rfl ?_
      refine TL.gnu (j := 11) (t := 14) rfl rfl rfl hg29 rfl ?_
      refine TL.gnu (j := 11) (t := 14) rfl rfl rfl hg29 rfl ?_
      refine TL.gnu (j := 11) (t := 14) rfl rfl rfl hg29 rfl ?_
      refine TL.gnu (j := 11) (t := 14) rfl rfl rfl hg29 rfl ?_
      obtain rfl := Option.some.inj hb28
      refine TL.yld rfl rfl (yld_pick_f rfl rfl hg29 rfl) ?_
      exact TL.nil fun a h => ⟨h.weaken ⟨rfl, rfl, trivial⟩, Ext.refl _⟩
  intro w36 hx37
  have he38 : Ext w w36 := Ext.trans he25 hx37
  have hb4 := Box.ext hb4 hx37
  have hz39 := (hx37).size
  refine TL.yld rfl rfl (yld_move rfl rfl) ?_
  refine TL.cut 6 [(1, .pointer (some ⟨b1, 0, none⟩)), (28, .bool ((c27 && ((a0_c.RiseAt != a0_c.FallAt)))))] (fun w' => Ext w36 w') ?_ ?_
  · rcases Bool.eq_false_or_eq_true c27 with hg40 | hg40
    ·
      refine TL.gy (j := 19) (t := 22) rfl rfl rfl hg40 rfl (yld_fieldAddr rfl fo_45_3 rfl) ?_
      refine TL.gy (j := 19) (t := 22) rfl rfl rfl hg40 rfl (yld_load1 3 rfl ag_2 rfl (Box.cells hb4) rfl rfl) ?_
      refine TL.gy (j := 19) (t := 22) rfl rfl rfl hg40 rfl (yld_fieldAddr rfl fo_45_4 rfl) ?_
      refine TL.gy (j := 19) (t := 22) rfl rfl rfl hg40 rfl (yld_load1 4 rfl ag_2 rfl (Box.cells hb4) rfl rfl) ?_
      refine TL.gy (j := 19) (t := 22) rfl rfl rfl hg40 rfl (yld_neq rfl rfl rfl) ?_
      refine TL.yld rfl rfl (yld_and_t rfl rfl hg40 rfl) ?_
      exact TL.nil fun a h => ⟨h.weaken ⟨rfl, rfl, trivial⟩, Ext.refl _⟩
    ·
      refine TL.gnu (j := 19) (t := 22) rfl rfl rfl hg40 rfl ?_
      refine TL.gnu (j := 19) (t := 22) rfl rfl rfl hg40 rfl ?_
      refine TL.gnu (j := 19) (t := 22) rfl rfl rfl hg40 rfl ?_
      refine TL.gnu (j := 19) (t := 22) rfl rfl rfl hg40 rfl ?_
      refine TL.gnu (j := 19) (t := 22) rfl rfl rfl hg40 rfl ?_
      refine TL.yld rfl rfl (yld_and_f (b2 := (a0_c.RiseAt != a0_c.FallAt)) rfl rfl hg40 rfl) ?_
      exact TL.nil fun a h => ⟨h.weaken ⟨rfl, rfl, trivial⟩, Ext.refl _⟩
  intro w41 hx42
  have he43 : Ext w w41 := Ext.trans he38 hx42
  have hb4 := Box.ext hb4 hx42
  have hz44 := (hx42).size
  refine TL.yld rfl rfl (yld_move rfl rfl) ?_
  refine TL.cut 4 [(1, .pointer (some ⟨b1, 0, none⟩)), (33, .bool ((((c27 && ((a0_c.RiseAt != a0_c.FallAt)))) && ((a0_c.Divide == 1)))))] (fun w' => Ext w41 w') ?_ ?_
  · rcases Bool.eq_false_or_eq_true ((c27 && ((a0_c.RiseAt != a0_c.FallAt)))) with hg45 | hg45
    ·
      refine TL.gy (j := 26) (t := 29) rfl rfl rfl hg45 rfl (yld_fieldAddr rfl fo_45_6 rfl) ?_
      refine TL.gy (j := 26) (t := 29) rfl rfl rfl hg45 rfl (yld_load1 6 rfl ag_2 rfl (Box.cells hb4) rfl rfl) ?_
      refine TL.gy (j := 26) (t := 29) rfl rfl rfl hg45 rfl (yld_eql rfl rfl rfl) ?_
      refine TL.yld rfl rfl (yld_and_t rfl rfl hg45 rfl) ?_
      exact TL.nil fun a h => ⟨h.weaken ⟨rfl, rfl, trivial⟩, Ext.refl _⟩
    ·
      refine TL.gnu (j := 26) (t := 29) rfl rfl rfl hg45 rfl ?_
      refine TL.gnu (j := 26) (t := 29) rfl rfl rfl hg45 rfl ?_
      refine TL.gnu (j := 26) (t := 29) rfl rfl rfl hg45 rfl ?_
      refine TL.yld rfl rfl (yld_and_f (b2 := (a0_c.Divide == 1)) rfl rfl hg45 rfl) ?_
      exact TL.nil fun a h => ⟨h.weaken ⟨rfl, rfl, trivial⟩, Ext.refl _⟩
  intro w46 hx47
  have he48 : Ext w w46 := Ext.trans he43 hx47
  have hb4 := Box.ext hb4 hx47
  have hz49 := (hx47).size
  refine TL.yld rfl rfl (yld_move rfl rfl) ?_
  refine TL.cut 4 [(38, .bool ((((((c27 && ((a0_c.RiseAt != a0_c.FallAt)))) && ((a0_c.Divide == 1)))) && (!a0_c.Invert))))] (fun w' => Ext w46 w') ?_ ?_
  · rcases Bool.eq_false_or_eq_true ((((c27 && ((a0_c.RiseAt != a0_c.FallAt)))) && ((a0_c.Divide == 1)))) with hg50 | hg50
    ·
      refine TL.gy (j := 31) (t := 34) rfl rfl rfl hg50 rfl (yld_fieldAddr rfl fo_45_7 rfl) ?_
      refine TL.gy (j := 31) (t := 34) rfl rfl rfl hg50 rfl (yld_load1 7 rfl ag_4 rfl (Box.cells hb4) rfl rfl) ?_
      refine TL.gy (j := 31) (t := 34) rfl rfl rfl hg50 rfl (yld_not rfl rfl) ?_
      refine TL.yld rfl rfl (yld_and_t rfl rfl hg50 rfl) ?_
      exact TL.nil fun a h => ⟨h.weaken ⟨rfl, trivial⟩, Ext.refl _⟩
    ·
      refine TL.gnu (j := 31) (t := 34) rfl rfl rfl hg50 rfl ?_
      refine TL.gnu (j := 31) (t := 34) rfl rfl rfl hg50 rfl ?_
      refine TL.gnu (j := 31) (t := 34) rfl rfl rfl hg50 rfl ?_
      refine TL.yld rfl rfl (yld_and_f (b2 := (!a0_c.Invert)) rfl rfl hg50 rfl) ?_
      exact TL.nil fun a h => ⟨h.weaken ⟨rfl, trivial⟩, Ext.refl _⟩
  intro w51 hx52
  have he53 : Ext w w51 := Ext.trans he48 hx52
  have hb4 := Box.ext hb4 hx52
  have hz54 := (hx52).size
  refine TL.yld rfl rfl (yld_assign rfl rfl) ?_
  refine TL.done ?_
  refine NX.seq ?_
  refine WC.ret' ?_
  obtain rfl := Option.some.inj hF
  exact NX.end (rs := [.tmp 2]) (vs := [.bool ((((((c27 && ((a0_c.RiseAt != a0_c.FallAt)))) && ((a0_c.Divide == 1)))) && (!a0_c.Invert)))]) rfl ⟨rfl, trivial⟩ ⟨_, rfl, rfl, he53⟩

end Go.Proofs.YthjagnioabgceaaDoor
