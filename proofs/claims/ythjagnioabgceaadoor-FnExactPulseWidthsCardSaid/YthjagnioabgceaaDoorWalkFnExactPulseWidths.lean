/- The walks: every function that FnExactPulseWidths reaches computes the plain function that is typed beside it; no condition. -/
import Derived.Test.YthjagnioabgceaaDoorWalkFnExactPulseWidthsP0
import Derived.Test.YthjagnioabgceaaDoorDat
import Derived.Test.YthjagnioabgceaaDoorShelf
set_option linter.all false
set_option maxRecDepth 20000
namespace Go.Proofs.YthjagnioabgceaaDoor
open Go Go.RowKit Go.Eng
-- loop.example/g00861/spec.PulseWidths
def F_spec_PulseWidths (n : Nat) (a0_list : List S_Clock) (a1_k : Int) : Option (Int × Int × Int) := (Option.bind (F_spec_l14Code n a0_list a1_k) fun r3 => (bif (r3 != 0) then (some (0, 0, r3)) else (Option.bind (F_spec_l14Of n a0_list a1_k) fun r11 => (Option.bind (F_spec_l14After n r11 1 r11.rise_) fun r29 => (some (IntKind.wrap IntKind.i64 (r29 - r11.rise_), IntKind.wrap IntKind.i64 (r11.period_ - (IntKind.wrap IntKind.i64 (r29 - r11.rise_))), 0))))))
set_option maxHeartbeats 4000000 in
theorem W_spec_PulseWidths {n : Nat} {a0_list : List S_Clock} {a1_k : Int} {r : Int × Int × Int} {w : World} {v1 : Value} (hF : F_spec_PulseWidths n a0_list a1_k = some r) (ha2 : slRep C_Clock w (Iv 0 w.heap.size) a0_list v1) :
    Calls Tryd.prog 29 [v1, .int .i64 a1_k].toArray w (Ret fun u w2 => u = .tuple #[.int .i64 r.1, .int .i64 r.2.1, .int .i64 r.2.2] ∧ Ext w w2) := by
  refine calls_of Tryd.func29 rfl Tryd.ntmps29 ?_
  have he0 : Ext w w := Ext.refl w
  unfold F_spec_PulseWidths at hF
  refine WC.seq ?_
  refine WC.region ?_
  refine TL.yld rfl rfl (yld_assign rfl rfl) ?_
  refine TL.yld rfl rfl (yld_assign rfl rfl) ?_
  refine TL.yld rfl rfl (yld_assign rfl rfl) ?_
  refine TL.done ?_
  refine NX.seq ?_
  refine WC.seq ?_
  refine WC.seq ?_
  refine WC.region ?_
  refine TL.yld rfl rfl (yld_move rfl rfl) ?_
  refine TL.yld rfl rfl (yld_move rfl rfl) ?_
  obtain ⟨r3, hr4, hF⟩ := bsome hF
  refine TL.eff rfl rfl (eff_call rfl gf_53 rfl (W_spec_l14Code hr4 ((slRep.old ha2 he0 (Nat.le_refl _)).wide (Nat.le_refl _) (he0).size))) ?_
  rintro _ w5 ⟨rfl, hx6⟩
  have he7 : Ext w w5 := Ext.trans he0 hx6
  have hz8 := (hx6).size
  refine TL.yld rfl rfl (yld_assign rfl rfl) ?_
  refine TL.done ?_
  refine NX.seq ?_
  refine WC.seq ?_
  refine WC.region ?_
  refine TL.yld rfl rfl (yld_move rfl rfl) ?_
  refine TL.yld rfl rfl (yld_neq rfl rfl rfl) ?_
  refine TL.done ?_
  refine NX.seq ?_
  refine WC.cond rfl ?_ ?_
  · intro hc9
    replace hF := bif_t hc9 hF
    refine WC.seq ?_
    refine WC.region ?_
    refine TL.yld rfl rfl (yld_move rfl rfl) ?_
    refine TL.yld rfl rfl (yld_assign rfl rfl) ?_
    refine TL.yld rfl rfl (yld_assign rfl rfl) ?_
    refine TL.yld rfl rfl (yld_assign rfl rfl) ?_
    refine TL.done ?_
    refine NX.seq ?_
    refine WC.ret' ?_
    refine NX.then_r ?_
    obtain rfl := Option.some.inj hF
    exact NX.end (rs := [.tmp 4, .tmp 5, .tmp 6]) (vs := [.int .i64 0, .int .i64 0, .int .i64 r3]) rfl ⟨rfl, rfl, rfl, trivial⟩ ⟨_, rfl, rfl, he7⟩
  · intro hc10
    replace hF := bif_f hc10 hF
    refine WC.skip' ?_
    refine NX.seq ?_
    refine WC.seq ?_
    refine WC.region ?_
    refine TL.yld rfl rfl (yld_move rfl rfl) ?_
    refine TL.yld rfl rfl (yld_move rfl rfl) ?_
    obtain ⟨r11, hr12, hF⟩ := bsome hF
    refine TL.eff rfl rfl (eff_call rfl gf_48 rfl (W_spec_l14Of hr12 ((slRep.old ha2 he7 (Nat.le_refl _)).wide (Nat.le_refl _) (he7).size))) ?_
    rintro _ w13 ⟨rfl, hx14⟩
    have he15 : Ext w w13 := Ext.trans he7 hx14
    have hz16 := (hx14).size
    refine TL.eff rfl rfl (eff_alloc rfl zn_60) ?_
    rintro _ w18 ⟨b17, rfl, hn19⟩
    obtain ⟨hn19e, hn19s, hn19x, hb20⟩ := hn19
    have hb20 : Box w18 b17 [.int .i64 0, .int .i64 0, .int .i64 0] 60 := hb20
    have he22 : Ext w w18 := Ext.trans he15 hn19x
    have hz23 := (hn19x).size
    have hlo21 : w.heap.size ≤ b17 := by rw [hn19e]; exact (he15).size
    refine TL.eff rfl rfl (eff_store rfl rfl rfl hb20 cn_60 rfl rfl) ?_
    rintro _ w24 ⟨hu25, hb26⟩
    have he27 : Ext w w24 := Below.trans he22 (Upd.below hu25 (by omega))
    have hz28 := (hu25).size
    have hb20 : Box w24 b17 [.int .i64 r11.period_, .int .i64 r11.rise_, .int .i64 r11.fall_] 60 := hb26
    refine TL.done ?_
    refine NX.seq ?_
    refine WC.seq ?_
    refine WC.quiet Tryd.hm (by kernel_rfl) ?_
    refine QL.yld rfl rfl (Yld.qui (yld_loadN (us := [.int .i64 r11.period_, .int .i64 r11.rise_, .int .i64 r11.fall_]) rfl ag_60 rfl (Box.cells hb20) cn_60)) ?_
    refine QL.yld rfl rfl (Yld.qui (yld_fieldAddr rfl fo_60_1 rfl)) ?_
    refine QL.yld rfl rfl (Yld.qui (yld_load1 1 rfl ag_2 rfl (Box.cells hb20) rfl rfl)) ?_
    obtain ⟨r29, hr30, hF⟩ := bsome hF
    refine QL.yld rfl rfl (qui_call rfl gf_62 rfl fun w' hw' => W_spec_l14After hr30) ?_
    refine QL.yld rfl rfl (Yld.qui (yld_fieldAddr rfl fo_60_1 rfl)) ?_
    refine QL.yld rfl rfl (Yld.qui (yld_load1 1 rfl ag_2 rfl (Box.cells hb20) rfl rfl)) ?_
    refine QL.yld rfl rfl (Yld.qui (yld_sub rfl rfl rfl)) ?_
    refine QL.yld rfl rfl (Yld.qui (yld_assign rfl rfl)) ?_
    refine QL.done fun w31 hx32 => ?_
    have he33 : Ext w w31 := Ext.trans he27 hx32
    have hb20 := Box.ext hb20 hx32
    have hz34 := (hx32).size
    refine NX.seq ?_
    refine WC.seq ?_
    refine WC.quiet Tryd.hm (by kernel_rfl) ?_
    refine QL.yld rfl rfl (Yld.qui (yld_move rfl rfl)) ?_
    refine QL.yld rfl rfl (Yld.qui (yld_fieldAddr rfl fo_60_0 rfl)) ?_
    refine QL.yld rfl rfl (Yld.qui (yld_load1 0 rfl ag_2 rfl (Box.cells hb20) rfl rfl)) ?_
    refine QL.yld rfl rfl (Yld.qui (yld_move rfl rfl)) ?_
    refine QL.yld rfl rfl (Yld.qui (yld_sub rfl rfl rfl)) ?_
    refine QL.yld rfl rfl (Yld.qui (yld_assign rfl rfl)) ?_
    refine QL.yld rfl rfl (Yld.qui (yld_assign rfl rfl)) ?_
    refine QL.yld rfl rfl (Yld.qui (yld_assign rfl rfl)) ?_
    refine QL.done fun w35 hx36 => ?_
    have he37 : Ext w w35 := Ext.trans he33 hx36
    have hb20 := Box.ext hb20 hx36
    have hz38 := (hx36).size
    refine NX.seq ?_
    refine WC.ret' ?_
    obtain rfl := Option.some.inj hF
    exact NX.end (rs := [.tmp 4, .tmp 5, .tmp 6]) (vs := [.int .i64 (IntKind.wrap IntKind.i64 (r29 - r11.rise_)), .int .i64 (IntKind.wrap IntKind.i64 (r11.period_ - (IntKind.wrap IntKind.i64 (r29 - r11.rise_)))), .int .i64 0]) rfl ⟨rfl, rfl, rfl, trivial⟩ ⟨_, rfl, rfl, he37⟩

-- loop.example/g00861/laws.FnExactPulseWidths
def F_laws_FnExactPulseWidths (n : Nat) (a0_aList : List S_Clock) (a1_aK : Int) : Option Bool := (Option.bind (F_laws_szClockS n a0_aList 1048576) fun r3 => (bif decide (r3 < 0) then (some true) else (Option.bind (F_laws_toClockS n a0_aList) fun r11 => (Option.bind (F_spec_PulseWidths n r11 a1_aK) fun r21 => (Option.bind (F_laws_toClockS n a0_aList) fun r27 => (Option.bind (F_impl_PulseWidths n r27 a1_aK) fun r37 => (bif (((((r37.1 != r21.1)) || ((r37.2.1 != r21.2.1)))) || ((r37.2.2 != r21.2.2))) then (some false) else (Option.bind (F_laws_toClockS n a0_aList) fun r55 => (Option.bind (F_laws_eqClockS n r27 r55) fun r65 => (bif (!r65) then (some false) else (some true)))))))))))
set_option maxHeartbeats 4000000 in
theorem W_laws_FnExactPulseWidths {n : Nat} {a0_aList : List S_Clock} {a1_aK : Int} {r : Bool} {w : World} {v1 : Value} (hF : F_laws_FnExactPulseWidths n a0_aList a1_aK = some r) (ha2 : slRep C_Clock w (Iv 0 w.heap.size) a0_aList v1) :
    Calls Tryd.prog 8 [v1, .int .i64 a1_aK].toArray w (Ret fun u w2 => u = .bool r ∧ Ext w w2) := by
  refine calls_of Tryd.func8 rfl Tryd.ntmps8 ?_
  have he0 : Ext w w := Ext.refl w
  unfold F_laws_FnExactPulseWidths at hF
  refine WC.seq ?_
  refine WC.region ?_
  refine TL.yld rfl rfl (yld_assign rfl rfl) ?_
  refine TL.done ?_
  refine NX.seq ?_
  refine WC.seq ?_
  refine WC.region ?_
  refine TL.yld rfl rfl (yld_assign rfl rfl) ?_
  refine TL.done ?_
  refine NX.seq ?_
  refine WC.seq ?_
  refine WC.region ?_
  refine TL.yld rfl rfl (yld_move rfl rfl) ?_
  refine TL.yld rfl rfl (yld_move rfl rfl) ?_
  obtain ⟨r3, hr4, hF⟩ := bsome hF
  refine TL.eff rfl rfl (eff_call rfl gf_15 rfl (W_laws_szClockS hr4 ((slRep.old ha2 he0 (Nat.le_refl _)).wide (Nat.le_refl _) (he0).size))) ?_
  rintro _ w5 ⟨rfl, hx6⟩
  have he7 : Ext w w5 := Ext.trans he0 hx6
  have hz8 := (hx6).size
  refine TL.yld rfl rfl (yld_assign rfl rfl) ?_
  refine TL.done ?_
  refine NX.seq ?_
  refine WC.seq ?_
  refine WC.seq ?_
  refine WC.region ?_
  refine TL.yld rfl rfl (yld_move rfl rfl) ?_
  refine TL.yld rfl rfl (yld_lss rfl rfl rfl) ?_
  refine TL.done ?_
  refine NX.seq ?_
  refine WC.cond rfl ?_ ?_
  · intro hc9
    replace hF := bif_t hc9 hF
    refine WC.seq ?_
    refine WC.region ?_
    refine TL.yld rfl rfl (yld_assign rfl rfl) ?_
    refine TL.done ?_
    refine NX.seq ?_
    refine WC.ret' ?_
    refine NX.then_r ?_
    obtain rfl := Option.some.inj hF
    exact NX.end (rs := [.tmp 4]) (vs := [.bool true]) rfl ⟨rfl, trivial⟩ ⟨_, rfl, rfl, he7⟩
  · intro hc10
    replace hF := bif_f hc10 hF
    refine WC.skip' ?_
    refine NX.seq ?_
    refine WC.seq ?_
    refine WC.region ?_
    refine TL.yld rfl rfl (yld_move rfl rfl) ?_
    obtain ⟨r11, hr12, hF⟩ := bsome hF
    refine TL.eff rfl rfl (eff_call rfl gf_17 rfl (W_laws_toClockS hr12 ((slRep.old ha2 he7 (Nat.le_refl _)).wide (Nat.le_refl _) (he7).size))) ?_
    rintro v15 w13 ⟨_, rfl, hs16, hx14⟩
    have he19 : Ext w w13 := Ext.trans he7 hx14
    have hz20 := (hx14).size
    have hbd18 := ownR.blk hs16
    refine TL.yld rfl rfl (yld_move rfl rfl) ?_
    obtain ⟨r21, hr22, hF⟩ := bsome hF
    refine TL.eff rfl rfl (eff_call rfl gf_29 rfl (W_spec_PulseWidths hr22 (ownR.slf hs16 (Nat.zero_le _) (Nat.le_refl _)))) ?_
    rintro _ w23 ⟨rfl, hx24⟩
    have he25 : Ext w w23 := Ext.trans he19 hx24
    have hs16 := ownR.ext hs16 hx24
    have hz26 := (hx24).size
    refine TL.yld rfl rfl (yld_move rfl rfl) ?_
    refine TL.yld rfl rfl (yld_extract rfl rfl rfl) ?_
    refine TL.yld rfl rfl (yld_extract rfl rfl rfl) ?_
    refine TL.yld rfl rfl (yld_extract rfl rfl rfl) ?_
    refine TL.yld rfl rfl (yld_assign rfl rfl) ?_
    refine TL.yld rfl rfl (yld_assign rfl rfl) ?_
    refine TL.yld rfl rfl (yld_assign rfl rfl) ?_
    refine TL.done ?_
    refine NX.seq ?_
    refine WC.seq ?_
    refine WC.region ?_
    refine TL.yld rfl rfl (yld_move rfl rfl) ?_
    obtain ⟨r27, hr28, hF⟩ := bsome hF
    refine TL.eff rfl rfl (eff_call rfl gf_17 rfl (W_laws_toClockS hr28 ((slRep.old ha2 he25 (Nat.le_refl _)).wide (Nat.le_refl _) (he25).size))) ?_
    rintro v31 w29 ⟨_, rfl, hs32, hx30⟩
    have he35 : Ext w w29 := Ext.trans he25 hx30
    have hs16 := ownR.ext hs16 hx30
    have hz36 := (hx30).size
    have hbd34 := ownR.blk hs32
    refine TL.yld rfl rfl (yld_assign rfl rfl) ?_
    refine TL.done ?_
    refine NX.seq ?_
    refine WC.seq ?_
    refine WC.region ?_
    refine TL.yld rfl rfl (yld_move rfl rfl) ?_
    refine TL.yld rfl rfl (yld_move rfl rfl) ?_
    obtain ⟨r37, hr38, hF⟩ := bsome hF
    refine TL.eff rfl rfl (eff_call rfl gf_24 rfl (W_impl_PulseWidths hr38 (ownR.slf hs32 (Nat.zero_le _) (Nat.le_refl _)))) ?_
    rintro _ w39 ⟨rfl, hx40⟩
    have he41 : Ext w w39 := Ext.trans he35 hx40
    have hs16 := ownR.ext hs16 hx40
    have hs32 := ownR.ext hs32 hx40
    have hz42 := (hx40).size
    refine TL.yld rfl rfl (yld_move rfl rfl) ?_
    refine TL.yld rfl rfl (yld_extract rfl rfl rfl) ?_
    refine TL.yld rfl rfl (yld_extract rfl rfl rfl) ?_
    refine TL.yld rfl rfl (yld_extract rfl rfl rfl) ?_
    refine TL.yld rfl rfl (yld_assign rfl rfl) ?_
    refine TL.yld rfl rfl (yld_assign rfl rfl) ?_
    refine TL.yld rfl rfl (yld_assign rfl rfl) ?_
    refine TL.done ?_
    refine NX.seq ?_
    refine WC.seq ?_
    refine WC.seq ?_
    refine WC.region ?_
    refine TL.yld rfl rfl (yld_move rfl rfl) ?_
    refine TL.yld rfl rfl (yld_move rfl rfl) ?_
    refine TL.yld rfl rfl (yld_neq rfl rfl rfl) ?_
    refine TL.yld rfl rfl (yld_move rfl rfl) ?_
    refine TL.cut 4 [(0, v1), (8, .int .i64 r21.2.2), (9, v31), (12, .int .i64 r37.2.2), (42, .bool ((((r37.1 != r21.1)) || ((r37.2.1 != r21.2.1)))))] (fun w' => Ext w39 w') ?_ ?_
    · rcases Bool.eq_false_or_eq_true ((r37.1 != r21.1)) with hg43 | hg43
      ·
        refine TL.gnu (j := 3) (t := 38) rfl rfl rfl hg43 rfl ?_
        refine TL.gnu (j := 3) (t := 38) rfl rfl rfl hg43 rfl ?_
        refine TL.gnu (j := 3) (t := 38) rfl rfl rfl hg43 rfl ?_
        refine TL.yld rfl rfl (yld_or_t (b2 := (r37.2.1 != r21.2.1)) rfl rfl hg43 rfl) ?_
        exact TL.nil fun a h => ⟨h.weaken ⟨rfl, rfl, rfl, rfl, rfl, trivial⟩, Ext.refl _⟩
      ·
        refine TL.gy (j := 3) (t := 38) rfl rfl rfl hg43 rfl (yld_move rfl rfl) ?_
        refine TL.gy (j := 3) (t := 38) rfl rfl rfl hg43 rfl (yld_move rfl rfl) ?_
        refine TL.gy (j := 3) (t := 38) rfl rfl rfl hg43 rfl (yld_neq rfl rfl rfl) ?_
        refine TL.yld rfl rfl (yld_or_f rfl rfl hg43 rfl) ?_
        exact TL.nil fun a h => ⟨h.weaken ⟨rfl, rfl, rfl, rfl, rfl, trivial⟩, Ext.refl _⟩
    intro w44 hx45
    have he46 : Ext w w44 := Ext.trans he41 hx45
    have hs16 := ownR.ext hs16 hx45
    have hs32 := ownR.ext hs32 hx45
    have hz47 := (hx45).size
    refine TL.yld rfl rfl (yld_move rfl rfl) ?_
    refine TL.cut 4 [(0, v1), (9, v31), (47, .bool ((((((r37.1 != r21.1)) || ((r37.2.1 != r21.2.1)))) || ((r37.2.2 != r21.2.2)))))] (fun w' => Ext w44 w') ?_ ?_
    · rcases Bool.eq_false_or_eq_true ((((r37.1 != r21.1)) || ((r37.2.1 != r21.2.1)))) with hg48 | hg48
      ·
        refine TL.gnu (j := 8) (t := 43) rfl rfl rfl hg48 rfl ?_
        refine TL.gnu (j := 8) (t := 43) rfl rfl rfl hg48 rfl ?_
        refine TL.gnu (j := 8) (t := 43) rfl rfl rfl hg48 rfl ?_
        refine TL.yld rfl rfl (yld_or_t (b2 := (r37.2.2 != r21.2.2)) rfl rfl hg48 rfl) ?_
        exact TL.nil fun a h => ⟨h.weaken ⟨rfl, rfl, rfl, trivial⟩, Ext.refl _⟩
      ·
        refine TL.gy (j := 8) (t := 43) rfl rfl rfl hg48 rfl (yld_move rfl rfl) ?_
        refine TL.gy (j := 8) (t := 43) rfl rfl rfl hg48 rfl (yld_move rfl rfl) ?_
        refine TL.gy (j := 8) (t := 43) rfl rfl rfl hg48 rfl (yld_neq rfl rfl rfl) ?_
        refine TL.yld rfl rfl (yld_or_f rfl rfl hg48 rfl) ?_
        exact TL.nil fun a h => ⟨h.weaken ⟨rfl, rfl, rfl, trivial⟩, Ext.refl _⟩
    intro w49 hx50
    have he51 : Ext w w49 := Ext.trans he46 hx50
    have hs16 := ownR.ext hs16 hx50
    have hs32 := ownR.ext hs32 hx50
    have hz52 := (hx50).size
    refine TL.done ?_
    refine NX.seq ?_
    refine WC.cond rfl ?_ ?_
    · intro hc53
      replace hF := bif_t hc53 hF
      refine WC.seq ?_
      refine WC.region ?_
      refine TL.yld rfl rfl (yld_assign rfl rfl) ?_
      refine TL.done ?_
      refine NX.seq ?_
      refine WC.ret' ?_
      refine NX.then_r ?_
      obtain rfl := Option.some.inj hF
      exact NX.end (rs := [.tmp 4]) (vs := [.bool false]) rfl ⟨rfl, trivial⟩ ⟨_, rfl, rfl, he51⟩
    · intro hc54
      replace hF := bif_f hc54 hF
      refine WC.skip' ?_
      refine NX.seq ?_
      refine WC.seq ?_
      refine WC.seq ?_
      refine WC.region ?_
      refine TL.yld rfl rfl (yld_move rfl rfl) ?_
      refine TL.yld rfl rfl (yld_move rfl rfl) ?_
      obtain ⟨r55, hr56, hF⟩ := bsome hF
      refine TL.eff rfl rfl (eff_call rfl gf_17 rfl (W_laws_toClockS hr56 ((slRep.old ha2 he51 (Nat.le_refl _)).wide (Nat.le_refl _) (he51).size))) ?_
      rintro v59 w57 ⟨_, rfl, hs60, hx58⟩
      have he63 : Ext w w57 := Ext.trans he51 hx58
      have hs16 := ownR.ext hs16 hx58
      have hs32 := ownR.ext hs32 hx58
      have hz64 := (hx58).size
      have hbd62 := ownR.blk hs60
      obtain ⟨r65, hr66, hF⟩ := bsome hF
      refine TL.eff rfl rfl (eff_call rfl gf_19 rfl (W_laws_eqClockS hr66 (ownR.slf hs32 (Nat.zero_le _) (Nat.le_refl _)) (ownR.slf hs60 (Nat.zero_le _) (Nat.le_refl _)))) ?_
      rintro _ w67 ⟨rfl, hx68⟩
      have he69 : Ext w w67 := Ext.trans he63 hx68
      have hs16 := ownR.ext hs16 hx68
      have hs32 := ownR.ext hs32 hx68
      have hs60 := ownR.ext hs60 hx68
      have hz70 := (hx68).size
      refine TL.yld rfl rfl (yld_not rfl rfl) ?_
      refine TL.done ?_
      refine NX.seq ?_
      refine WC.cond rfl ?_ ?_
      · intro hc71
        replace hF := bif_t hc71 hF
        refine WC.seq ?_
        refine WC.region ?_
        refine TL.yld rfl rfl (yld_assign rfl rfl) ?_
        refine TL.done ?_
        refine NX.seq ?_
        refine WC.ret' ?_
        refine NX.then_r ?_
        obtain rfl := Option.some.inj hF
        exact NX.end (rs := [.tmp 4]) (vs := [.bool false]) rfl ⟨rfl, trivial⟩ ⟨_, rfl, rfl, he69⟩
      · intro hc72
        replace hF := bif_f hc72 hF
        refine WC.skip' ?_
        refine NX.seq ?_
        refine WC.seq ?_
        refine WC.region ?_
        refine TL.yld rfl rfl (yld_assign rfl rfl) ?_
        refine TL.done ?_
        refine NX.seq ?_
        refine WC.ret' ?_
        obtain rfl := Option.some.inj hF
        exact NX.end (rs := [.tmp 4]) (vs := [.bool true]) rfl ⟨rfl, trivial⟩ ⟨_, rfl, rfl, he69⟩

theorem Z_Clock {n : Nat} {a : S_Clock} {left : Int} (hR : R_Clock a) (h0 : 0 ≤ left) (h1 : left ≤ 1048576) (hn : 1048577 ≤ n) : ∃ r, F_laws_szClock n a left = some r ∧ r ≤ left ∧ (0 ≤ r → SM_Clock a) := by
  rw [F_laws_szClock]
  have g0 : a.Name.size ≤ 9223372036854775807 := maxLen_is ▸ hR.1
  have w0 : IntKind.wrap IntKind.i64 (left - (a.Name.size : Int)) = left - (a.Name.size : Int) := wrap64 (by omega) (by omega)
  rw [w0]
  generalize hq0 : left - (a.Name.size : Int) = r0
  by_cases h_0 : r0 < 0
  · rw [decide_eq_true h_0]; exact ⟨-1, rfl, by omega, fun h => by omega⟩
  rw [decide_eq_false h_0, cond_false]
  exact ⟨_, rfl, by omega, fun _ => ⟨(by omega), trivial, trivial, trivial, trivial, trivial, trivial, trivial, trivial, trivial, trivial⟩⟩
theorem Z_ClockS {n : Nat} {a : List S_Clock} {left : Int} (hR : (fun xs => xs.length ≤ 9223372036854775807 ∧ ∀ x ∈ xs, R_Clock x) a) (h0 : 0 ≤ left) (h1 : left ≤ 1048576) (hn : 1048577 ≤ n) : ∃ r, F_laws_szClockS n a left = some r ∧ r ≤ left ∧ (0 ≤ r → (fun xs => xs.length ≤ 1048576 ∧ ∀ x ∈ xs, SM_Clock x) a) := by
  have hl := hR.1
  rw [F_laws_szClockS, wrap64 (by omega) (by omega)]
  by_cases h : left - (a.length : Int) < 0
  · rw [decide_eq_true h]; exact ⟨-1, rfl, by omega, fun h => by omega⟩
  · rw [decide_eq_false h, cond_false]
    obtain ⟨r, e, hr, hs⟩ := szL (xs := a) (L := fun m l i => F_laws_szClockS_L1 n a (fun i7 i8 => (some i7)) m l i) (f := F_laws_szClock n) (SM := SM_Clock) (by omega) (fun x hx left g0 g1 => Z_Clock (hR.2 x hx) g0 g1 hn) (fun m i left hi hi2 => by simp only [F_laws_szClockS_L1_s, dltE hi, cond_true, getI_elE hi, Option.bind_some, wSE hi2]) (fun m left => by simp only [F_laws_szClockS_L1_s, dnlE, cond_false]) n 0 (left - (a.length : Int)) (by omega) (by omega) (by omega) (by omega) (fun j _ hj => by omega)
    exact ⟨r, e, by omega, fun h => ⟨by omega, hs h⟩⟩
theorem T_Clock {n : Nat} {a : S_Clock} (h : SM_Clock a) (hn : 1048577 ≤ n) : F_laws_toClock n a = some a := by
  rfl
theorem TL_ClockS {n : Nat} {a : List S_Clock} {k : Int → List S_Clock → Option (List S_Clock)} : ∀ (m : Nat) (i : Int) (l : List S_Clock), F_laws_toClockS_L1 n a k m i l = cpL a (F_laws_toClock n) k m i l
  | 0, _, _ => rfl
  | m + 1, i, l => by simp only [F_laws_toClockS_L1_s, cpL_s, Option.bind_some, TL_ClockS (n := n) (a := a) (k := k) m]
theorem T_ClockS {n : Nat} {a : List S_Clock} (h : (fun xs => xs.length ≤ 1048576 ∧ ∀ x ∈ xs, SM_Clock x) a) (hn : 1048577 ≤ n) : F_laws_toClockS n a = some a := by
  rw [F_laws_toClockS, mkN_ok h.1 (by omega), Option.bind_some, TL_ClockS (n := n)]
  exact cpL_id (fun x hx => T_Clock (h.2 x hx) hn) h.1 hn
theorem E_Clock {n : Nat} {a : S_Clock} (h : SM_Clock a) (hn : 1048577 ≤ n) : F_laws_eqClock n a a = some true := by
  simp [F_laws_eqClock]
theorem EL_ClockS {n : Nat} {a b : List S_Clock} {k : Int → Option Bool} : ∀ (m : Nat) (i : Int), F_laws_eqClockS_L1 n a b k m i = eqL a b (F_laws_eqClock n) (some false) k m i
  | 0, _ => rfl
  | m + 1, i => by simp only [F_laws_eqClockS_L1_s, eqL_s, Option.bind_some, bne, EL_ClockS (n := n) (a := a) (b := b) (k := k) m]
theorem E_ClockS {n : Nat} {a : List S_Clock} (h : (fun xs => xs.length ≤ 1048576 ∧ ∀ x ∈ xs, SM_Clock x) a) (hn : 1048577 ≤ n) : F_laws_eqClockS n a a = some true := by
  rw [F_laws_eqClockS, EL_ClockS (n := n)]
  have := eqL_same (f := F_laws_eqClock n) (no := some false) (k := fun (i : Int) => some true) (fun x hx => E_Clock (h.2 x hx) hn) h.1 n 0 (by omega) (by omega)
  simpa using this
theorem Rd_2 : Rd Tryd.prog 2 (cInt .i64) (inK .i64) := Rd.int Tryd.underlying2
theorem Rd_9 : Rd Tryd.prog 9 cStr (fun s => s.size ≤ maxLen) := Rd.str Tryd.underlying9
theorem Rd_4 : Rd Tryd.prog 4 cBool (fun _ => True) := Rd.bool Tryd.underlying4
theorem Rd_56 : Rd Tryd.prog 56 C_Clock R_Clock := Rd.map (Rd.struct (fs := [_, _, _, _, _, _, _, _, _, _, _]) Tryd.underlying56 (by kernel_rfl) (RdF.cons Rd_9 rfl (by kernel_rfl) (RdF.cons Rd_2 rfl (by kernel_rfl) (RdF.cons Rd_2 rfl (by kernel_rfl) (RdF.cons Rd_2 rfl (by kernel_rfl) (RdF.cons Rd_2 rfl (by kernel_rfl) (RdF.cons Rd_2 rfl (by kernel_rfl) (RdF.cons Rd_2 rfl (by kernel_rfl) (RdF.cons Rd_4 rfl (by kernel_rfl) (RdF.cons Rd_2 rfl (by kernel_rfl) (RdF.cons Rd_2 rfl (by kernel_rfl) (RdF.one Rd_2 rfl (by kernel_rfl))))))))))))) (fun (x : S_Clock) => (x.Name, x.Place, x.Period, x.RiseAt, x.FallAt, x.Source, x.Divide, x.Invert, x.EarlyLatency, x.LateLatency, x.Uncertainty)) (fun p => (⟨p.1, p.2.1, p.2.2.1, p.2.2.2.1, p.2.2.2.2.1, p.2.2.2.2.2.1, p.2.2.2.2.2.2.1, p.2.2.2.2.2.2.2.1, p.2.2.2.2.2.2.2.2.1, p.2.2.2.2.2.2.2.2.2.1, p.2.2.2.2.2.2.2.2.2.2⟩ : S_Clock)) (fun _ => rfl)
theorem Rd_22 : Rd Tryd.prog 22 (cSl C_Clock) (fun xs => xs.length ≤ 9223372036854775807 ∧ ∀ x ∈ xs, R_Clock x) := Rd.slice Tryd.underlying22 (by kernel_rfl) rfl Rd_56
end Go.Proofs.YthjagnioabgceaaDoor
