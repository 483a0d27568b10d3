/- The walks: every function that FnSeparations reaches computes the plain function that is typed beside it; no condition. -/
import Derived.Test.YthjagnioabgceabDoorWalkFnSeparationsP0
import Derived.Test.YthjagnioabgceabDoorDat
import Derived.Test.YthjagnioabgceabDoorShelf
set_option linter.all false
set_option maxRecDepth 20000
namespace Go.Proofs.YthjagnioabgceabDoor
open Go Go.RowKit Go.Eng
-- loop.example/g00861/impl.edgesOf
def F_impl_edgesOf (n : Nat) (a0_list : List S_Clock) (a1_a : Int) (a2_ea : Int) (a3_b : Int) (a4_eb : Int) : Option (S_edges × Int) := (Option.bind (F_impl_clockCode n a0_list ([a1_a, a3_b])) fun r23 => (bif (r23 != 0) then (some ((S_edges.mk ((S_wave.mk 0 ((A2_Int.mk 0 0)))) ((S_wave.mk 0 ((A2_Int.mk 0 0)))) 0 0 0), r23)) else (Option.bind (F_impl_isTransition n a2_ea) fun r36 => (Option.bind (bif (!r36) then (some true) else (Option.bind (F_impl_isTransition n a4_eb) fun r42 => (some (!r42)))) fun c42 => (bif c42 then (some ((S_edges.mk ((S_wave.mk 0 ((A2_Int.mk 0 0)))) ((S_wave.mk 0 ((A2_Int.mk 0 0)))) 0 0 0), 2)) else (Option.bind (F_impl_rootOf n a0_list a1_a) fun r62 => (Option.bind (F_impl_rootOf n a0_list a3_b) fun r68 => (bif (r62 != r68) then (some ((S_edges.mk ((S_wave.mk 0 ((A2_Int.mk 0 0)))) ((S_wave.mk 0 ((A2_Int.mk 0 0)))) 0 0 0), 5)) else (Option.bind (F_impl_waveOf n a0_list a1_a) fun r81 => (Option.bind (F_impl_waveOf n a0_list a3_b) fun r87 => (Option.bind (F_impl_hyperPeriod n a0_list a1_a a3_b) fun r93 => (Option.bind (bif decide (r93 > 100000000) then (some true) else (bif (r81.period_ == 0) then none else (some (decide (IntKind.wrap IntKind.i64 (Int.tdiv r93 r81.period_) > 200))))) fun c111 => (bif c111 then (some ((S_edges.mk ((S_wave.mk 0 ((A2_Int.mk 0 0)))) ((S_wave.mk 0 ((A2_Int.mk 0 0)))) 0 0 0), 3)) else (some ((S_edges.mk r81 r87 a2_ea a4_eb r93), 0)))))))))))))))
set_option maxHeartbeats 40000000 in
theorem W_impl_edgesOf {n : Nat} {a0_list : List S_Clock} {a1_a : Int} {a2_ea : Int} {a3_b : Int} {a4_eb : Int} {r : S_edges × Int} {w : World} {v1 : Value} (hF : F_impl_edgesOf n a0_list a1_a a2_ea a3_b a4_eb = some r) (ha2 : slRep C_Clock w (Iv 0 w.heap.size) a0_list v1) :
    Calls Tryd.prog 53 [v1, .int .i64 a1_a, .int .i64 a2_ea, .int .i64 a3_b, .int .i64 a4_eb].toArray w (Ret fun u w2 => u = .tuple #[.agg #[.int .i64 r.1.from_.period_, .int .i64 r.1.from_.edges_.e0, .int .i64 r.1.from_.edges_.e1, .int .i64 r.1.to_.period_, .int .i64 r.1.to_.edges_.e0, .int .i64 r.1.to_.edges_.e1, .int .i64 r.1.ea_, .int .i64 r.1.eb_, .int .i64 r.1.hyper_], .int .i64 r.2] ∧ Ext w w2) := by
  refine calls_of Tryd.func53 rfl Tryd.ntmps53 ?_
  have he0 : Ext w w := Ext.refl w
  unfold F_impl_edgesOf at hF
  refine WC.seq ?_
  refine WC.region ?_
  refine TL.eff rfl rfl (eff_alloc rfl zn_86) ?_
  rintro _ w4 ⟨b3, rfl, hn5⟩
  obtain ⟨hn5e, hn5s, hn5x, hb6⟩ := hn5
  have hb6 : Box w4 b3 [.int .i64 0, .int .i64 0, .int .i64 0, .int .i64 0, .int .i64 0, .int .i64 0, .int .i64 0, .int .i64 0, .int .i64 0] 86 := hb6
  have he8 : Ext w w4 := Ext.trans he0 hn5x
  have hz9 := (hn5x).size
  have hlo7 : w.heap.size ≤ b3 := by rw [hn5e]; exact (he0).size
  refine TL.yld rfl rfl (yld_assign rfl rfl) ?_
  refine TL.done ?_
  refine NX.seq ?_
  refine WC.seq ?_
  refine WC.region ?_
  refine TL.yld rfl rfl (yld_move rfl rfl) ?_
  refine TL.yld rfl rfl (yld_move rfl rfl) ?_
  refine TL.yld rfl rfl (yld_move rfl rfl) ?_
  refine TL.eff rfl rfl (eff_buildSlice (c := (cInt .i64)) (xs := [a1_a, a3_b]) (S := (Iv 0 0)) (uss := [(0, [.int .i64 a1_a]), (1, [.int .i64 a3_b])]) (out := [.int .i64 a1_a, .int .i64 a3_b]) rfl Tryd.underlying42 in_2 rfl rfl (fillL_all [[.int .i64 a1_a], [.int .i64 a3_b]] rfl rfl rfl) rfl rfl rfl rfl (one_rep (uss := [[.int .i64 a1_a], [.int .i64 a3_b]]) (show reps _ _ _ _ _ from ⟨rfl, rfl, trivial⟩) rfl) (fun k h => by have := h.2; omega) rfl) ?_
  rintro v10 w11 ⟨g12, hv13, hg14, hz15, hx16, hs17⟩
  have he18 : Ext w w11 := Ext.trans he8 hx16
  have hb6 := Box.ext hb6 hx16
  have hz19 := (hx16).size
  have hlo20 : w.heap.size ≤ g12 := by rw [hg14]; exact (he8).size
  have hbd21 := bd_of hv13
  clear hv13
  obtain ⟨r23, hr24, hF⟩ := bsome hF
  refine TL.eff rfl rfl (eff_call rfl gf_60 rfl (W_impl_clockCode hr24 ((slRep.old ha2 he18 (Nat.le_refl _)).wide (Nat.le_refl _) (he18).size) (ownR.slf hs17 (Nat.zero_le _) (Nat.le_refl _)))) ?_
  rintro _ w25 ⟨rfl, hx26⟩
  have he27 : Ext w w25 := Ext.trans he18 hx26
  have hb6 := Box.ext hb6 hx26
  have hs17 := ownR.ext hs17 hx26
  have hz28 := (hx26).size
  refine TL.yld rfl rfl (yld_assign rfl rfl) ?_
  refine TL.done ?_
  refine NX.seq ?_
  refine WC.seq ?_
  refine WC.block ?_
  refine WC.seq ?_
  refine WC.region ?_
  refine TL.yld rfl rfl (yld_move rfl rfl) ?_
  refine TL.yld rfl rfl (yld_neq rfl rfl rfl) ?_
  refine TL.yld rfl rfl (yld_assign rfl rfl) ?_
  refine TL.done ?_
  refine NX.seq ?_
  refine WC.cond rfl ?_ ?_
  · intro hc29
    replace hF := bif_t hc29 hF
    refine WC.seq ?_
    refine WC.region ?_
    refine TL.yld rfl rfl (yld_build (uss := []) (out := [.int .i64 0, .int .i64 0, .int .i64 0, .int .i64 0, .int .i64 0, .int .i64 0, .int .i64 0, .int .i64 0, .int .i64 0]) rfl rfl zn_86 pl_86 rfl rfl) ?_
    refine TL.yld rfl rfl (yld_move rfl rfl) ?_
    refine TL.eff rfl rfl (eff_store rfl rfl rfl hb6 cn_86 rfl rfl) ?_
    rintro _ w30 ⟨hu31, hb32⟩
    have he33 : Ext w w30 := Below.trans he27 (Upd.below hu31 (by omega))
    have hs17 := ownR.upd hs17 hu31 (fun g hg => by have := hbd21 g hg; omega)
    have hz34 := (hu31).size
    have hb6 : Box w30 b3 [.int .i64 0, .int .i64 0, .int .i64 0, .int .i64 0, .int .i64 0, .int .i64 0, .int .i64 0, .int .i64 0, .int .i64 0] 86 := hb32
    refine TL.yld rfl rfl (yld_assign rfl rfl) ?_
    refine TL.done ?_
    refine NX.seq ?_
    refine WC.ret' ?_
    refine NX.blk_r ?_
    refine NX.then_r ?_
    obtain rfl := Option.some.inj hF
    exact NX.end (rs := [.cell 10 86, .tmp 11]) (vs := [.agg #[.int .i64 0, .int .i64 0, .int .i64 0, .int .i64 0, .int .i64 0, .int .i64 0, .int .i64 0, .int .i64 0, .int .i64 0], .int .i64 r23]) rfl ⟨⟨b3, rfl, box_load ag_86 cn_86 hb6⟩, rfl, trivial⟩ ⟨_, rfl, rfl, he33⟩
  · intro hc35
    replace hF := bif_f hc35 hF
    refine WC.seq ?_
    refine WC.region ?_
    refine TL.yld rfl rfl (yld_move rfl rfl) ?_
    obtain ⟨r36, hr37, hF⟩ := bsome hF
    refine TL.eff rfl rfl (eff_call rfl gf_62 rfl (W_impl_isTransition hr37)) ?_
    rintro _ w38 ⟨rfl, hx39⟩
    have he40 : Ext w w38 := Ext.trans he27 hx39
    have hb6 := Box.ext hb6 hx39
    have hs17 := ownR.ext hs17 hx39
    have hz41 := (hx39).size
    refine TL.yld rfl rfl (yld_not rfl rfl) ?_
    refine TL.yld rfl rfl (yld_move rfl rfl) ?_
    obtain ⟨c42, hb43, hF⟩ := bsome hF
    refine TL.cut 4 [(0, v1), (1, .int .i64 a1_a), (2, .int .i64 a2_ea), (3, .int .i64 a3_b), (4, .int .i64 a4_eb), (10, .pointer (some ⟨b3, 0, none⟩)), (32, .bool c42)] (fun w' => Ext w38 w') ?_ ?_
    · rcases Bool.eq_false_or_eq_true (!r36) with hg44 | hg44
      ·
        rw [hg44] at hb43; simp only [cond_true, cond_false] at hb43
        refine TL.gnu (j := 3) (t := 28) rfl rfl rfl hg44 rfl ?_
        refine TL.gnu (j := 3) (t := 28) rfl rfl rfl hg44 rfl ?_
        refine TL.gnu (j := 3) (t := 28) rfl rfl rfl hg44 rfl ?_
        obtain rfl := Option.some.inj hb43
        refine TL.yld rfl rfl (yld_pick_t rfl rfl hg44 rfl) ?_
        exact TL.nil fun a h => ⟨h.weaken ⟨rfl, rfl, rfl, rfl, rfl, rfl, rfl, trivial⟩, Ext.refl _⟩
      ·
        rw [hg44] at hb43; simp only [cond_true, cond_false] at hb43
        replace hF := hb43
        refine TL.gy (j := 3) (t := 28) rfl rfl rfl hg44 rfl (yld_move rfl rfl) ?_
        obtain ⟨r45, hr46, hF⟩ := bsome hF
        refine TL.ge (j := 3) (t := 28) rfl rfl rfl hg44 rfl (eff_call rfl gf_62 rfl (W_impl_isTransition hr46)) ?_
        rintro _ w47 ⟨rfl, hx48⟩
        have he49 : Ext w w47 := Ext.trans he40 hx48
        have hb6 := Box.ext hb6 hx48
        have hs17 := ownR.ext hs17 hx48
        have hz50 := (hx48).size
        refine TL.gy (j := 3) (t := 28) rfl rfl rfl hg44 rfl (yld_not rfl rfl) ?_
        obtain rfl := Option.some.inj hF
        refine TL.yld rfl rfl (yld_pick_f rfl rfl hg44 rfl) ?_
        exact TL.nil fun a h => ⟨h.weaken ⟨rfl, rfl, rfl, rfl, rfl, rfl, rfl, trivial⟩, hx48⟩
    intro w51 hx52
    have he53 : Ext w w51 := Ext.trans he40 hx52
    have hb6 := Box.ext hb6 hx52
    have hs17 := ownR.ext hs17 hx52
    have hz54 := (hx52).size
    refine TL.yld rfl rfl (yld_assign rfl rfl) ?_
    refine TL.done ?_
    refine NX.seq ?_
    refine WC.cond rfl ?_ ?_
    · intro hc55
      replace hF := bif_t hc55 hF
      refine WC.seq ?_
      refine WC.region ?_
      refine TL.yld rfl rfl (yld_build (uss := []) (out := [.int .i64 0, .int .i64 0, .int .i64 0, .int .i64 0, .int .i64 0, .int .i64 0, .int .i64 0, .int .i64 0, .int .i64 0]) rfl rfl zn_86 pl_86 rfl rfl) ?_
      refine TL.eff rfl rfl (eff_store rfl rfl rfl hb6 cn_86 rfl rfl) ?_
      rintro _ w56 ⟨hu57, hb58⟩
      have he59 : Ext w w56 := Below.trans he53 (Upd.below hu57 (by omega))
      have hs17 := ownR.upd hs17 hu57 (fun g hg => by have := hbd21 g hg; omega)
      have hz60 := (hu57).size
      have hb6 : Box w56 b3 [.int .i64 0, .int .i64 0, .int .i64 0, .int .i64 0, .int .i64 0, .int .i64 0, .int .i64 0, .int .i64 0, .int .i64 0] 86 := hb58
      refine TL.yld rfl rfl (yld_assign rfl rfl) ?_
      refine TL.done ?_
      refine NX.seq ?_
      refine WC.ret' ?_
      refine NX.blk_r ?_
      refine NX.then_r ?_
      obtain rfl := Option.some.inj hF
      exact NX.end (rs := [.cell 10 86, .tmp 11]) (vs := [.agg #[.int .i64 0, .int .i64 0, .int .i64 0, .int .i64 0, .int .i64 0, .int .i64 0, .int .i64 0, .int .i64 0, .int .i64 0], .int .i64 2]) rfl ⟨⟨b3, rfl, box_load ag_86 cn_86 hb6⟩, rfl, trivial⟩ ⟨_, rfl, rfl, he59⟩
    · intro hc61
      replace hF := bif_f hc61 hF
      refine WC.seq ?_
      refine WC.region ?_
      refine TL.yld rfl rfl (yld_move rfl rfl) ?_
      refine TL.yld rfl rfl (yld_move rfl rfl) ?_
      obtain ⟨r62, hr63, hF⟩ := bsome hF
      refine TL.eff rfl rfl (eff_call rfl gf_97 rfl (W_impl_rootOf hr63 ((slRep.old ha2 he53 (Nat.le_refl _)).wide (Nat.le_refl _) (he53).size))) ?_
      rintro _ w64 ⟨rfl, hx65⟩
      have he66 : Ext w w64 := Ext.trans he53 hx65
      have hb6 := Box.ext hb6 hx65
      have hs17 := ownR.ext hs17 hx65
      have hz67 := (hx65).size
      refine TL.yld rfl rfl (yld_move rfl rfl) ?_
      refine TL.yld rfl rfl (yld_move rfl rfl) ?_
      obtain ⟨r68, hr69, hF⟩ := bsome hF
      refine TL.eff rfl rfl (eff_call rfl gf_97 rfl (W_impl_rootOf hr69 ((slRep.old ha2 he66 (Nat.le_refl _)).wide (Nat.le_refl _) (he66).size))) ?_
      rintro _ w70 ⟨rfl, hx71⟩
      have he72 : Ext w w70 := Ext.trans he66 hx71
      have hb6 := Box.ext hb6 hx71
      have hs17 := ownR.ext hs17 hx71
      have hz73 := (hx71).size
      refine TL.yld rfl rfl (yld_neq rfl rfl rfl) ?_
      refine TL.yld rfl rfl (yld_assign rfl rfl) ?_
      refine TL.done ?_
      refine NX.seq ?_
      refine WC.cond rfl ?_ ?_
      · intro hc74
        replace hF := bif_t hc74 hF
        refine WC.seq ?_
        refine WC.region ?_
        refine TL.yld rfl rfl (yld_build (uss := []) (out := [.int .i64 0, .int .i64 0, .int .i64 0, .int .i64 0, .int .i64 0, .int .i64 0, .int .i64 0, .int .i64 0, .int .i64 0]) rfl rfl zn_86 pl_86 rfl rfl) ?_
        refine TL.eff rfl rfl (eff_store rfl rfl rfl hb6 cn_86 rfl rfl) ?_
        rintro _ w75 ⟨hu76, hb77⟩
        have he78 : Ext w w75 := Below.trans he72 (Upd.below hu76 (by omega))
        have hs17 := ownR.upd hs17 hu76 (fun g hg => by have := hbd21 g hg; omega)
        have hz79 := (hu76).size
        have hb6 : Box w75 b3 [.int .i64 0, .int .i64 0, .int .i64 0, .int .i64 0, .int .i64 0, .int .i64 0, .int .i64 0, .int .i64 0, .int .i64 0] 86 := hb77
        refine TL.yld rfl rfl (yld_assign rfl rfl) ?_
        refine TL.done ?_
        refine NX.seq ?_
        refine WC.ret' ?_
        refine NX.blk_r ?_
        refine NX.then_r ?_
        obtain rfl := Option.some.inj hF
        exact NX.end (rs := [.cell 10 86, .tmp 11]) (vs := [.agg #[.int .i64 0, .int .i64 0, .int .i64 0, .int .i64 0, .int .i64 0, .int .i64 0, .int .i64 0, .int .i64 0, .int .i64 0], .int .i64 5]) rfl ⟨⟨b3, rfl, box_load ag_86 cn_86 hb6⟩, rfl, trivial⟩ ⟨_, rfl, rfl, he78⟩
      · intro hc80
        replace hF := bif_f hc80 hF
        refine WC.skip' ?_
        refine NX.blk_n ?_
        refine NX.seq ?_
        refine WC.seq ?_
        refine WC.region ?_
        refine TL.yld rfl rfl (yld_move rfl rfl) ?_
        refine TL.yld rfl rfl (yld_move rfl rfl) ?_
        obtain ⟨r81, hr82, hF⟩ := bsome hF
        refine TL.eff rfl rfl (eff_call rfl gf_64 rfl (W_impl_waveOf hr82 ((slRep.old ha2 he72 (Nat.le_refl _)).wide (Nat.le_refl _) (he72).size))) ?_
        rintro _ w83 ⟨rfl, hx84⟩
        have he85 : Ext w w83 := Ext.trans he72 hx84
        have hb6 := Box.ext hb6 hx84
        have hs17 := ownR.ext hs17 hx84
        have hz86 := (hx84).size
        refine TL.yld rfl rfl (yld_move rfl rfl) ?_
        refine TL.yld rfl rfl (yld_move rfl rfl) ?_
        obtain ⟨r87, hr88, hF⟩ := bsome hF
        refine TL.eff rfl rfl (eff_call rfl gf_64 rfl (W_impl_waveOf hr88 ((slRep.old ha2 he85 (Nat.le_refl _)).wide (Nat.le_refl _) (he85).size))) ?_
        rintro _ w89 ⟨rfl, hx90⟩
        have he91 : Ext w w89 := Ext.trans he85 hx90
        have hb6 := Box.ext hb6 hx90
        have hs17 := ownR.ext hs17 hx90
        have hz92 := (hx90).size
        refine TL.yld rfl rfl (yld_move rfl rfl) ?_
        refine TL.yld rfl rfl (yld_move rfl rfl) ?_
        refine TL.yld rfl rfl (yld_move rfl rfl) ?_
        refine TL.yld rfl rfl (yld_move rfl rfl) ?_
        refine TL.yld rfl rfl (yld_move rfl rfl) ?_
        obtain ⟨r93, hr94, hF⟩ := bsome hF
        refine TL.eff rfl rfl (eff_call rfl gf_61 rfl (W_impl_hyperPeriod hr94 ((slRep.old ha2 he91 (Nat.le_refl _)).wide (Nat.le_refl _) (he91).size))) ?_
        rintro _ w95 ⟨rfl, hx96⟩
        have he97 : Ext w w95 := Ext.trans he91 hx96
        have hb6 := Box.ext hb6 hx96
        have hs17 := ownR.ext hs17 hx96
        have hz98 := (hx96).size
        refine TL.yld rfl rfl (yld_build (uss := [(0, [.int .i64 r81.period_, .int .i64 r81.edges_.e0, .int .i64 r81.edges_.e1]), (1, [.int .i64 r87.period_, .int .i64 r87.edges_.e0, .int .i64 r87.edges_.e1]), (2, [.int .i64 a2_ea]), (3, [.int .i64 a4_eb]), (4, [.int .i64 r93])]) (out := [.int .i64 r81.period_, .int .i64 r81.edges_.e0, .int .i64 r81.edges_.e1, .int .i64 r87.period_, .int .i64 r87.edges_.e0, .int .i64 r87.edges_.e1, .int .i64 a2_ea, .int .i64 a4_eb, .int .i64 r93]) rfl rfl zn_86 pl_86 rfl rfl) ?_
        refine TL.eff rfl rfl (eff_alloc rfl zn_86) ?_
        rintro _ w100 ⟨b99, rfl, hn101⟩
        obtain ⟨hn101e, hn101s, hn101x, hb102⟩ := hn101
        have hb102 : Box w100 b99 [.int .i64 0, .int .i64 0, .int .i64 0, .int .i64 0, .int .i64 0, .int .i64 0, .int .i64 0, .int .i64 0, .int .i64 0] 86 := hb102
        have he104 : Ext w w100 := Ext.trans he97 hn101x
        have hb6 := Box.ext hb6 hn101x
        have hs17 := ownR.ext hs17 hn101x
        have hz105 := (hn101x).size
        have hlo103 : w.heap.size ≤ b99 := by rw [hn101e]; exact (he97).size
        refine TL.eff rfl rfl (eff_store rfl rfl rfl hb102 cn_86 rfl rfl) ?_
        rintro _ w106 ⟨hu107, hb108⟩
        have he109 : Ext w w106 := Below.trans he104 (Upd.below hu107 (by omega))
        have hb6 := Box.upd hb6 hu107 (by omega)
        have hs17 := ownR.upd hs17 hu107 (fun g hg => by have := hbd21 g hg; omega)
        have hz110 := (hu107).size
        have hb102 : Box w106 b99 [.int .i64 r81.period_, .int .i64 r81.edges_.e0, .int .i64 r81.edges_.e1, .int .i64 r87.period_, .int .i64 r87.edges_.e0, .int .i64 r87.edges_.e1, .int .i64 a2_ea, .int .i64 a4_eb, .int .i64 r93] 86 := hb108
        refine TL.done ?_
        refine NX.seq ?_
        refine WC.seq ?_
        refine WC.seq ?_
        refine WC.region ?_
        refine TL.yld rfl rfl (yld_fieldAddr rfl fo_86_4 rfl) ?_
        refine TL.yld rfl rfl (yld_load1 8 rfl ag_2 rfl (Box.cells hb102) rfl rfl) ?_
        refine TL.yld rfl rfl (yld_gtr rfl rfl rfl) ?_
        refine TL.yld rfl rfl (yld_move rfl rfl) ?_
        obtain ⟨c111, hb112, hF⟩ := bsome hF
        refine TL.cut 8 [(10, .pointer (some ⟨b3, 0, none⟩)), (13, .pointer (some ⟨b99, 0, none⟩)), (67, .bool c111)] (fun w' => Ext w106 w') ?_ ?_
        · rcases Bool.eq_false_or_eq_true (decide (r93 > 100000000)) with hg113 | hg113
          ·
            rw [hg113] at hb112; simp only [cond_true, cond_false] at hb112
            refine TL.gnu (j := 3) (t := 59) rfl rfl rfl hg113 rfl ?_
            refine TL.gnu (j := 3) (t := 59) rfl rfl rfl hg113 rfl ?_
            refine TL.gnu (j := 3) (t := 59) rfl rfl rfl hg113 rfl ?_
            refine TL.gnu (j := 3) (t := 59) rfl rfl rfl hg113 rfl ?_
            refine TL.gnu (j := 3) (t := 59) rfl rfl rfl hg113 rfl ?_
            refine TL.gnu (j := 3) (t := 59) rfl rfl rfl hg113 rfl ?_
            refine TL.gnu (j := 3) (t := 59) rfl rfl rfl hg113 rfl ?_
            obtain rfl := Option.some.inj hb112
            refine TL.yld rfl rfl (yld_pick_t rfl rfl hg113 rfl) ?_
            exact TL.nil fun a h => ⟨h.weaken ⟨rfl, rfl, rfl, trivial⟩, Ext.refl _⟩
          ·
            rw [hg113] at hb112; simp only [cond_true, cond_false] at hb112
            replace hF := hb112
            refine TL.gy (j := 3) (t := 59) rfl rfl rfl hg113 rfl (yld_fieldAddr rfl fo_86_4 rfl) ?_
            refine TL.gy (j := 3) (t := 59) rfl rfl rfl hg113 rfl (yld_load1 8 rfl ag_2 rfl (Box.cells hb102) rfl rfl) ?_
            refine TL.gy (j := 3) (t := 59) rfl rfl rfl hg113 rfl (yld_fieldAddr rfl fo_86_0 rfl) ?_
            refine TL.gy (j := 3) (t := 59) rfl rfl rfl hg113 rfl (yld_fieldAddr rfl fo_84_0 rfl) ?_
            refine TL.gy (j := 3) (t := 59) rfl rfl rfl hg113 rfl (yld_load1 0 rfl ag_2 rfl (Box.cells hb102) rfl rfl) ?_
            obtain ⟨hn114, hF⟩ := nzero hF
            refine TL.gy (j := 3) (t := 59) rfl rfl rfl hg113 rfl (yld_quo rfl rfl rfl hn114) ?_
            refine TL.gy (j := 3) (t := 59) rfl rfl rfl hg113 rfl (yld_gtr rfl rfl rfl) ?_
            obtain rfl := Option.some.inj hF
            refine TL.yld rfl rfl (yld_pick_f rfl rfl hg113 rfl) ?_
            exact TL.nil fun a h => ⟨h.weaken ⟨rfl, rfl, rfl, trivial⟩, Ext.refl _⟩
        intro w115 hx116
        have he117 : Ext w w115 := Ext.trans he109 hx116
        have hb6 := Box.ext hb6 hx116
        have hb102 := Box.ext hb102 hx116
        have hs17 := ownR.ext hs17 hx116
        have hz118 := (hx116).size
        refine TL.done ?_
        refine NX.seq ?_
        refine WC.cond rfl ?_ ?_
        · intro hc119
          replace hF := bif_t hc119 hF
          refine WC.seq ?_
          refine WC.region ?_
          refine TL.yld rfl rfl (yld_build (uss := []) (out := [.int .i64 0, .int .i64 0, .int .i64 0, .int .i64 0, .int .i64 0, .int .i64 0, .int .i64 0, .int .i64 0, .int .i64 0]) rfl rfl zn_86 pl_86 rfl rfl) ?_
          refine TL.eff rfl rfl (eff_store rfl rfl rfl hb6 cn_86 rfl rfl) ?_
          rintro _ w120 ⟨hu121, hb122⟩
          have he123 : Ext w w120 := Below.trans he117 (Upd.below hu121 (by omega))
          have hb102 := Box.upd hb102 hu121 (by omega)
          have hs17 := ownR.upd hs17 hu121 (fun g hg => by have := hbd21 g hg; omega)
          have hz124 := (hu121).size
          have hb6 : Box w120 b3 [.int .i64 0, .int .i64 0, .int .i64 0, .int .i64 0, .int .i64 0, .int .i64 0, .int .i64 0, .int .i64 0, .int .i64 0] 86 := hb122
          refine TL.yld rfl rfl (yld_assign rfl rfl) ?_
          refine TL.done ?_
          refine NX.seq ?_
          refine WC.ret' ?_
          refine NX.then_r ?_
          obtain rfl := Option.some.inj hF
          exact NX.end (rs := [.cell 10 86, .tmp 11]) (vs := [.agg #[.int .i64 0, .int .i64 0, .int .i64 0, .int .i64 0, .int .i64 0, .int .i64 0, .int .i64 0, .int .i64 0, .int .i64 0], .int .i64 3]) rfl ⟨⟨b3, rfl, box_load ag_86 cn_86 hb6⟩, rfl, trivial⟩ ⟨_, rfl, rfl, he123⟩
        · intro hc125
          replace hF := bif_f hc125 hF
          refine WC.skip' ?_
          refine NX.seq ?_
          refine WC.seq ?_
          refine WC.region ?_
          refine TL.yld rfl rfl (yld_loadN (us := [.int .i64 r81.period_, .int .i64 r81.edges_.e0, .int .i64 r81.edges_.e1, .int .i64 r87.period_, .int .i64 r87.edges_.e0, .int .i64 r87.edges_.e1, .int .i64 a2_ea, .int .i64 a4_eb, .int .i64 r93]) rfl ag_86 rfl (Box.cells hb102) cn_86) ?_
          refine TL.eff rfl rfl (eff_store rfl rfl rfl hb6 cn_86 rfl rfl) ?_
          rintro _ w126 ⟨hu127, hb128⟩
          have he129 : Ext w w126 := Below.trans he117 (Upd.below hu127 (by omega))
          have hb102 := Box.upd hb102 hu127 (by omega)
          have hs17 := ownR.upd hs17 hu127 (fun g hg => by have := hbd21 g hg; omega)
          have hz130 := (hu127).size
          have hb6 : Box w126 b3 [.int .i64 r81.period_, .int .i64 r81.edges_.e0, .int .i64 r81.edges_.e1, .int .i64 r87.period_, .int .i64 r87.edges_.e0, .int .i64 r87.edges_.e1, .int .i64 a2_ea, .int .i64 a4_eb, .int .i64 r93] 86 := hb128
          refine TL.yld rfl rfl (yld_assign rfl rfl) ?_
          refine TL.done ?_
          refine NX.seq ?_
          refine WC.ret' ?_
          obtain rfl := Option.some.inj hF
          exact NX.end (rs := [.cell 10 86, .tmp 11]) (vs := [.agg #[.int .i64 r81.period_, .int .i64 r81.edges_.e0, .int .i64 r81.edges_.e1, .int .i64 r87.period_, .int .i64 r87.edges_.e0, .int .i64 r87.edges_.e1, .int .i64 a2_ea, .int .i64 a4_eb, .int .i64 r93], .int .i64 0]) rfl ⟨⟨b3, rfl, box_load ag_86 cn_86 hb6⟩, rfl, trivial⟩ ⟨_, rfl, rfl, he129⟩

-- loop.example/g00861/impl.modulo
def F_impl_modulo (n : Nat) (a0_a : Int) (a1_b : Int) : Option Int := (bif (a1_b == 0) then none else (bif (a1_b == 0) then none else (some (Int.tmod (IntKind.wrap IntKind.i64 ((Int.tmod a0_a a1_b) + a1_b)) a1_b))))
set_option maxHeartbeats 40000000 in
theorem W_impl_modulo {n : Nat} {a0_a : Int} {a1_b : Int} {r : Int} {w : World} (hF : F_impl_modulo n a0_a a1_b = some r) :
    Calls Tryd.prog 104 [.int .i64 a0_a, .int .i64 a1_b].toArray w (Ret fun u w2 => u = .int .i64 r ∧ Ext w w2) := by
  refine calls_of Tryd.func104 rfl Tryd.ntmps104 ?_
  have he0 : Ext w w := Ext.refl w
  unfold F_impl_modulo at hF
  refine WC.seq ?_
  refine WC.region ?_
  refine TL.yld rfl rfl (yld_assign rfl rfl) ?_
  refine TL.done ?_
  refine NX.seq ?_
  refine WC.seq ?_
  refine WC.region ?_
  refine TL.yld rfl rfl (yld_move rfl rfl) ?_
  refine TL.yld rfl rfl (yld_move rfl rfl) ?_
  obtain ⟨hn1, hF⟩ := nzero hF
  refine TL.yld rfl rfl (yld_rem rfl rfl rfl hn1) ?_
  refine TL.yld rfl rfl (yld_move rfl rfl) ?_
  refine TL.yld rfl rfl (yld_add rfl rfl rfl) ?_
  refine TL.yld rfl rfl (yld_move rfl rfl) ?_
  obtain ⟨hn2, hF⟩ := nzero hF
  refine TL.yld rfl rfl (yld_rem rfl rfl rfl hn2) ?_
  refine TL.yld rfl rfl (yld_assign rfl rfl) ?_
  refine TL.done ?_
  refine NX.seq ?_
  refine WC.ret' ?_
  obtain rfl := Option.some.inj hF
  exact NX.end (rs := [.tmp 4]) (vs := [.int .i64 (Int.tmod (IntKind.wrap IntKind.i64 ((Int.tmod a0_a a1_b) + a1_b)) a1_b)]) rfl ⟨rfl, trivial⟩ ⟨_, rfl, rfl, he0⟩

-- (loop.example/g00861/impl.wave).next
def F_impl_wave_next (n : Nat) (a0_w : S_wave) (a1_edge : Int) (a2_time : Int) : Option Int := (Option.bind (getI ([a0_w.edges_.e0, a0_w.edges_.e1] : List Int) a1_edge) fun x8 => (Option.bind (F_impl_modulo n (IntKind.wrap IntKind.i64 (x8 - a2_time)) a0_w.period_) fun r10 => (some (IntKind.wrap IntKind.i64 (a2_time + r10)))))
set_option maxHeartbeats 40000000 in
theorem W_impl_wave_next {n : Nat} {a0_w : S_wave} {a1_edge : Int} {a2_time : Int} {r : Int} {w : World} (hF : F_impl_wave_next n a0_w a1_edge a2_time = some r) :
    Calls Tryd.prog 65 [.agg #[.int .i64 a0_w.period_, .int .i64 a0_w.edges_.e0, .int .i64 a0_w.edges_.e1], .int .i64 a1_edge, .int .i64 a2_time].toArray w (Ret fun u w2 => u = .int .i64 r ∧ Ext w w2) := by
  refine calls_of Tryd.func65 rfl Tryd.ntmps65 ?_
  have he0 : Ext w w := Ext.refl w
  unfold F_impl_wave_next at hF
  refine WC.seq ?_
  refine WC.region ?_
  refine TL.eff rfl rfl (eff_box rfl rfl) ?_
  rintro _ w2 ⟨b1, rfl, hn3⟩
  obtain ⟨hn3e, hn3s, hn3x, hb4⟩ := hn3
  have hb4 : Box w2 b1 [.int .i64 a0_w.period_, .int .i64 a0_w.edges_.e0, .int .i64 a0_w.edges_.e1] 84 := hb4
  have he6 : Ext w w2 := Ext.trans he0 hn3x
  have hz7 := (hn3x).size
  have hlo5 : w.heap.size ≤ b1 := by rw [hn3e]; exact (he0).size
  refine TL.yld rfl rfl (yld_assign rfl rfl) ?_
  refine TL.done ?_
  refine NX.seq ?_
  refine WC.seq ?_
  refine WC.quiet Tryd.hm (by kernel_rfl) ?_
  refine QL.yld rfl rfl (Yld.qui (yld_move rfl rfl)) ?_
  refine QL.yld rfl rfl (Yld.qui (yld_move rfl rfl)) ?_
  refine QL.yld rfl rfl (Yld.qui (yld_fieldAddr rfl fo_84_1 rfl)) ?_
  obtain ⟨x8, hy9, hF⟩ := bsome hF
  refine QL.yld rfl rfl (Yld.qui (yld_indexArr rfl Tryd.underlying82 cn_2 rfl rfl (getI_rng hy9))) ?_
  refine QL.yld rfl rfl (Yld.qui (yld_loadI 1 [a0_w.edges_.e0, a0_w.edges_.e1] rfl ag_2 rfl (Box.cells hb4) (by omega) rfl hy9)) ?_
  refine QL.yld rfl rfl (Yld.qui (yld_move rfl rfl)) ?_
  refine QL.yld rfl rfl (Yld.qui (yld_sub rfl rfl rfl)) ?_
  refine QL.yld rfl rfl (Yld.qui (yld_fieldAddr rfl fo_84_0 rfl)) ?_
  refine QL.yld rfl rfl (Yld.qui (yld_load1 0 rfl ag_2 rfl (Box.cells hb4) rfl rfl)) ?_
  obtain ⟨r10, hr11, hF⟩ := bsome hF
  refine QL.yld rfl rfl (qui_call rfl gf_104 rfl fun w' hw' => W_impl_modulo hr11) ?_
  refine QL.yld rfl rfl (Yld.qui (yld_add rfl rfl rfl)) ?_
  refine QL.yld rfl rfl (Yld.qui (yld_assign rfl rfl)) ?_
  refine QL.done fun w12 hx13 => ?_
  have he14 : Ext w w12 := Ext.trans he6 hx13
  have hb4 := Box.ext hb4 hx13
  have hz15 := (hx13).size
  refine NX.seq ?_
  refine WC.ret' ?_
  obtain rfl := Option.some.inj hF
  exact NX.end (rs := [.tmp 6]) (vs := [.int .i64 (IntKind.wrap IntKind.i64 (a2_time + r10))]) rfl ⟨rfl, trivial⟩ ⟨_, rfl, rfl, he14⟩

-- (loop.example/g00861/impl.edges).pairs
def F_impl_edges_pairs_L1 (n : Nat) (a0_x : S_edges) (k0 : (List (List Int)) → Int → Option (List (List Int))) : Nat → (List (List Int)) → Int → Option (List (List Int))
  | 0 => fun _ _ => none
  | m + 1 => fun l15 i19 => (bif decide (i19 < a0_x.hyper_) then (Option.bind (F_impl_wave_next n a0_x.to_ a0_x.eb_ (IntKind.wrap IntKind.i64 (i19 + 1))) fun r23 => (Option.bind (appN l15 ([[i19, r23]]) 24) fun z55 => (F_impl_edges_pairs_L1 n a0_x k0 m z55 (IntKind.wrap IntKind.i64 (i19 + a0_x.from_.period_))))) else (k0 l15 i19))
theorem F_impl_edges_pairs_L1_z (n : Nat) (a0_x : S_edges) (k0 : (List (List Int)) → Int → Option (List (List Int))) (l15 : List (List Int)) (i19 : Int) : F_impl_edges_pairs_L1 n a0_x k0 0 l15 i19 = none := rfl
theorem F_impl_edges_pairs_L1_s (m : Nat) (n : Nat) (a0_x : S_edges) (k0 : (List (List Int)) → Int → Option (List (List Int))) (l15 : List (List Int)) (i19 : Int) : F_impl_edges_pairs_L1 n a0_x k0 (m + 1) l15 i19 = (bif decide (i19 < a0_x.hyper_) then (Option.bind (F_impl_wave_next n a0_x.to_ a0_x.eb_ (IntKind.wrap IntKind.i64 (i19 + 1))) fun r23 => (Option.bind (appN l15 ([[i19, r23]]) 24) fun z55 => (F_impl_edges_pairs_L1 n a0_x k0 m z55 (IntKind.wrap IntKind.i64 (i19 + a0_x.from_.period_))))) else (k0 l15 i19)) := rfl

def F_impl_edges_pairs (n : Nat) (a0_x : S_edges) : Option (List (List Int)) := (Option.bind (getI ([a0_x.from_.edges_.e0, a0_x.from_.edges_.e1] : List Int) a0_x.ea_) fun x8 => (F_impl_edges_pairs_L1 n a0_x (fun l15 i19 => (some l15)) n (([] : List (List Int))) x8))
set_option maxHeartbeats 40000000 in
theorem W_impl_edges_pairs {n : Nat} {a0_x : S_edges} {r : List (List Int)} {w : World} (hF : F_impl_edges_pairs n a0_x = some r) :
    Calls Tryd.prog 59 [.agg #[.int .i64 a0_x.from_.period_, .int .i64 a0_x.from_.edges_.e0, .int .i64 a0_x.from_.edges_.e1, .int .i64 a0_x.to_.period_, .int .i64 a0_x.to_.edges_.e0, .int .i64 a0_x.to_.edges_.e1, .int .i64 a0_x.ea_, .int .i64 a0_x.eb_, .int .i64 a0_x.hyper_]].toArray w (Ret fun u w2 => ∃ v0_0, u = v0_0 ∧ ownR (cSl (cInt .i64)) w2 w.heap.size (SX w.heap.size w2.heap.size v0_0) 42 r v0_0 ∧ Ext w w2) := by
  refine calls_of Tryd.func59 rfl Tryd.ntmps59 ?_
  have he0 : Ext w w := Ext.refl w
  unfold F_impl_edges_pairs at hF
  refine WC.seq ?_
  refine WC.region ?_
  refine TL.eff rfl rfl (eff_box rfl rfl) ?_
  rintro _ w2 ⟨b1, rfl, hn3⟩
  obtain ⟨hn3e, hn3s, hn3x, hb4⟩ := hn3
  have hb4 : Box w2 b1 [.int .i64 a0_x.from_.period_, .int .i64 a0_x.from_.edges_.e0, .int .i64 a0_x.from_.edges_.e1, .int .i64 a0_x.to_.period_, .int .i64 a0_x.to_.edges_.e0, .int .i64 a0_x.to_.edges_.e1, .int .i64 a0_x.ea_, .int .i64 a0_x.eb_, .int .i64 a0_x.hyper_] 86 := hb4
  have he6 : Ext w w2 := Ext.trans he0 hn3x
  have hz7 := (hn3x).size
  have hlo5 : w.heap.size ≤ b1 := by rw [hn3e]; exact (he0).size
  refine TL.yld rfl rfl (yld_assign rfl rfl) ?_
  refine TL.done ?_
  refine NX.seq ?_
  refine WC.seq ?_
  refine WC.region ?_
  refine TL.yld rfl rfl (yld_assign rfl rfl) ?_
  refine TL.done ?_
  refine NX.seq ?_
  refine WC.seq ?_
  refine WC.seq ?_
  refine WC.region ?_
  refine TL.yld rfl rfl (yld_fieldAddr rfl fo_86_2 rfl) ?_
  refine TL.yld rfl rfl (yld_load1 6 rfl ag_2 rfl (Box.cells hb4) rfl rfl) ?_
  refine TL.yld rfl rfl (yld_fieldAddr rfl fo_86_0 rfl) ?_
  refine TL.yld rfl rfl (yld_fieldAddr rfl fo_84_1 rfl) ?_
  obtain ⟨x8, hy9, hF⟩ := bsome hF
  refine TL.yld rfl rfl (yld_indexArr rfl Tryd.underlying82 cn_2 rfl rfl (getI_rng hy9)) ?_
  refine TL.yld rfl rfl (yld_loadI 1 [a0_x.from_.edges_.e0, a0_x.from_.edges_.e1] rfl ag_2 rfl (Box.cells hb4) (by omega) rfl hy9) ?_
  refine TL.yld rfl rfl (yld_assign rfl rfl) ?_
  refine TL.done ?_
  refine NX.seq ?_
  refine WC.block ?_
  have hs12 : ownR (cSl (cInt .i64)) w2 (w2.heap.size) (SX (w2.heap.size) (w2.heap.size) (.slice none 0 0)) 42 [] (.slice none 0 0) := ownR.nil _ _ _ _ _
  have hbd13 : ∀ q, (Value.slice none 0 0).ownBlock = some q → w2.heap.size ≤ q ∧ q < w2.heap.size := bd_nil
  refine WC.loop (fun m22 a wl => ∃ (l15 : List (List Int)) (v16 : Value) (i19 : Int), Kn 33 [(1, .pointer (some ⟨b1, 0, none⟩)), (3, v16), (4, .int .i64 i19)] a ∧ Ext w wl ∧ w2.heap.size ≤ wl.heap.size ∧ Box wl b1 [.int .i64 a0_x.from_.period_, .int .i64 a0_x.from_.edges_.e0, .int .i64 a0_x.from_.edges_.e1, .int .i64 a0_x.to_.period_, .int .i64 a0_x.to_.edges_.e0, .int .i64 a0_x.to_.edges_.e1, .int .i64 a0_x.ea_, .int .i64 a0_x.eb_, .int .i64 a0_x.hyper_] 86 ∧ ownR (cSl (cInt .i64)) wl (w2.heap.size) (SX (w2.heap.size) wl.heap.size v16) 42 l15 v16 ∧ (∀ q, v16.ownBlock = some q → w2.heap.size ≤ q ∧ q < wl.heap.size) ∧ (∀ g, v16.ownBlock = some g → g ≠ b1) ∧ F_impl_edges_pairs_L1 n a0_x (fun l15 i19 => (some l15)) m22 l15 i19 = some r) n ?_ ?_
  · intro a hK; exact ⟨(([] : List (List Int))), ((.slice none 0 0)), x8, hK.weaken ⟨rfl, rfl, rfl, trivial⟩, he6, Nat.le_refl _, hb4, (ownR.wideN hs12 (by omega)), (fun g hg => by have := hbd13 g hg; omega), (fun g hg => by have := hbd13 g hg; omega), hF⟩
  · rintro m22 a w10 ⟨l15, v16, i19, hK, he11, hz23, hb20, hs17, hbd18, hp21, hF⟩
    revert hK; revert a; refine (?_ : WC _ _ _ _ _ _)
    cases m22 with
    | zero => rw [F_impl_edges_pairs_L1_z] at hF; cases hF
    | succ m22 =>
      rw [F_impl_edges_pairs_L1_s] at hF
      refine WC.seq ?_
      refine WC.seq ?_
      refine WC.region ?_
      refine TL.yld rfl rfl (yld_move rfl rfl) ?_
      refine TL.yld rfl rfl (yld_fieldAddr rfl fo_86_4 rfl) ?_
      refine TL.yld rfl rfl (yld_load1 8 rfl ag_2 rfl (Box.cells hb20) rfl rfl) ?_
      refine TL.yld rfl rfl (yld_lss rfl rfl rfl) ?_
      refine TL.done ?_
      refine NX.seq ?_
      refine WC.cond rfl ?_ ?_
      · intro hc24
        replace hF := bif_t hc24 hF
        refine WC.skip' ?_
        refine NX.seq ?_
        refine WC.seq ?_
        refine WC.block ?_
        refine WC.region ?_
        refine TL.yld rfl rfl (yld_move rfl rfl) ?_
        refine TL.yld rfl rfl (yld_move rfl rfl) ?_
        refine TL.yld rfl rfl (yld_fieldAddr rfl fo_86_1 rfl) ?_
        refine TL.yld rfl rfl (yld_loadN (us := [.int .i64 a0_x.to_.period_, .int .i64 a0_x.to_.edges_.e0, .int .i64 a0_x.to_.edges_.e1]) rfl ag_84 rfl (CellsAt.sub (Box.cells hb20) 3 3 : CellsAt _ _ _ [.int .i64 a0_x.to_.period_, .int .i64 a0_x.to_.edges_.e0, .int .i64 a0_x.to_.edges_.e1]) cn_84) ?_
        refine TL.yld rfl rfl (yld_fieldAddr rfl fo_86_3 rfl) ?_
        refine TL.yld rfl rfl (yld_load1 7 rfl ag_2 rfl (Box.cells hb20) rfl rfl) ?_
        refine TL.yld rfl rfl (yld_move rfl rfl) ?_
        refine TL.yld rfl rfl (yld_add rfl rfl rfl) ?_
        obtain ⟨r25, hr26, hF⟩ := bsome hF
        refine TL.eff rfl rfl (eff_call rfl gf_65 rfl (W_impl_wave_next hr26)) ?_
        rintro _ w27 ⟨rfl, hx28⟩
        have he29 : Ext w w27 := Ext.trans he11 hx28
        have hb20 := Box.ext hb20 hx28
        have hs17 := ownR.extN hs17 hx28 (by omega)
        have hz30 := (hx28).size
        refine TL.eff rfl rfl (eff_buildSlice (c := (cInt .i64)) (xs := [i19, r25]) (S := (Iv 0 0)) (uss := [(0, [.int .i64 i19]), (1, [.int .i64 r25])]) (out := [.int .i64 i19, .int .i64 r25]) rfl Tryd.underlying42 in_2 rfl rfl (fillL_all [[.int .i64 i19], [.int .i64 r25]] rfl rfl rfl) rfl rfl rfl rfl (one_rep (uss := [[.int .i64 i19], [.int .i64 r25]]) (show reps _ _ _ _ _ from ⟨rfl, rfl, trivial⟩) rfl) (fun k h => by have := h.2; omega) rfl) ?_
        rintro v31 w32 ⟨g33, hv34, hg35, hz36, hx37, hs38⟩
        have he39 : Ext w w32 := Ext.trans he29 hx37
        have hb20 := Box.ext hb20 hx37
        have hs17 := ownR.extN hs17 hx37 (by omega)
        have hz40 := (hx37).size
        have hlo41 : w.heap.size ≤ g33 := by rw [hg35]; exact (he29).size
        have hbd42 := bd_of hv34
        clear hv34
        refine TL.eff rfl rfl (eff_buildSlice (c := (cSl (cInt .i64))) (xs := [[i19, r25]]) (S := (Iv g33 w32.heap.size)) (uss := [(0, [v31])]) (out := [v31]) rfl Tryd.underlying38 in_42 rfl (pt_cons (slRep.cl (ownR.slf hs38 (Nat.le_refl _) (Nat.le_refl _))) rfl) (fillL_all [[v31]] rfl rfl rfl) rfl rfl rfl rfl (one_rep (uss := [[v31]]) (show reps _ _ _ _ _ from ⟨⟨_, rfl, ((ownR.slf hs38 (Nat.le_refl _) (Nat.le_refl _)).wide (by omega) (by omega))⟩, trivial⟩) rfl) (fun k h => by have := h.2; omega) rfl) ?_
        rintro v44 w45 ⟨g46, hv47, hg48, hz49, hx50, hs51⟩
        have he52 : Ext w w45 := Ext.trans he39 hx50
        have hb20 := Box.ext hb20 hx50
        have hs17 := ownR.extN hs17 hx50 (by omega)
        have hs38 := ownR.ext hs38 hx50
        have hz53 := (hx50).size
        have hlo54 : w.heap.size ≤ g46 := by rw [hg48]; exact (he39).size
        have hs51 := ownR.litN hs51 hv47 (by omega) (by omega)
        have hbd55 := bd_of hv47
        clear hv47
        obtain ⟨z57, ha58, hF⟩ := bsome hF
        refine TL.eff rfl rfl (eff_appendN (c := (cSl (cInt .i64))) rfl Tryd.underlying38 in_42 rfl rfl rfl rfl rfl hs17 (by omega) (by omega) (ownR.slN hs51 (Nat.le_refl _) (Nat.le_refl _) (by omega)) (by omega) (by omega) (fun g hg => by have := hbd18 g hg; omega) ha58) ?_
        rintro v59 w60 ⟨hs61, hgr62⟩
        have he64 : Ext w w60 := Below.trans he52 (Grew.low hgr62 (fun g hg => by have := hbd18 g hg; omega) (he52).size)
        have hp65 : ∀ g, v59.ownBlock = some g → g ≠ b1 := Grew.sepP (p := fun g => g ≠ b1) hgr62 hp21 (fun g hg => by omega)
        have hb20 := Grew.box hgr62 hb20 hp21
        have hp66 : ∀ g q, v16.ownBlock = some g → v31.ownBlock = some q → g ≠ q := (fun g q hg hq => by have := hbd18 g hg; have := hbd42 q hq; omega)
        have hp67 : ∀ g q, v59.ownBlock = some g → v31.ownBlock = some q → g ≠ q := fun g q hg hq => Grew.sepP (p := fun g => ∀ q, v31.ownBlock = some q → g ≠ q) hgr62 (fun g hg q hq => (hp66) g q hg hq) (fun g hg q hq => by have := hbd42 q hq; omega) g hg q hq
        have hs38 := Grew.ownF hgr62 hs38 hp66
        have hp68 : ∀ g q, v16.ownBlock = some g → v44.ownBlock = some q → g ≠ q := (fun g q hg hq => by have := hbd18 g hg; have := hbd55 q hq; omega)
        have hp69 : ∀ g q, v59.ownBlock = some g → v44.ownBlock = some q → g ≠ q := fun g q hg hq => Grew.sepP (p := fun g => ∀ q, v44.ownBlock = some q → g ≠ q) hgr62 (fun g hg q hq => (hp68) g q hg hq) (fun g hg q hq => by have := hbd55 q hq; omega) g hg q hq
        have hs51 := Grew.ownN hgr62 hs51 hp68 (by omega) (fun g hg => by have := hbd18 g hg; omega)
        have hz70 := (hgr62).1.size
        have hbd71 : ∀ g, v59.ownBlock = some g → w2.heap.size ≤ g ∧ g < w60.heap.size := Grew.bd hgr62 hs61 (fun g hg => ⟨by have := hbd18 g hg; omega, (hbd18 g hg).2⟩) (by omega) (by omega)
        refine TL.yld rfl rfl (yld_assign rfl rfl) ?_
        refine TL.done ?_
        refine NX.blk_n ?_
        refine NX.seq ?_
        refine WC.region ?_
        refine TL.yld rfl rfl (yld_move rfl rfl) ?_
        refine TL.yld rfl rfl (yld_fieldAddr rfl fo_86_0 rfl) ?_
        refine TL.yld rfl rfl (yld_fieldAddr rfl fo_84_0 rfl) ?_
        refine TL.yld rfl rfl (yld_load1 0 rfl ag_2 rfl (Box.cells hb20) rfl rfl) ?_
        refine TL.yld rfl rfl (yld_add rfl rfl rfl) ?_
        refine TL.yld rfl rfl (yld_assign rfl rfl) ?_
        refine TL.done ?_
        refine NX.then_n ?_
        intro a hK; exact ⟨m22, Nat.lt_succ_self m22, z57, v59, (IntKind.wrap IntKind.i64 (i19 + a0_x.from_.period_)), hK.weaken ⟨rfl, rfl, rfl, trivial⟩, he64, (by omega), hb20, (ownR.wideN hs61 (by omega)), (fun g hg => by have := hbd71 g hg; omega), hp65, hF⟩
      · intro hc72
        replace hF := bif_f hc72 hF
        refine WC.exit' ?_
        refine NX.then_e ?_
        refine NX.then_e ?_
        refine NX.blk_hit ?_
        refine NX.seq ?_
        refine WC.seq ?_
        refine WC.region ?_
        refine TL.yld rfl rfl (yld_move rfl rfl) ?_
        refine TL.yld rfl rfl (yld_assign rfl rfl) ?_
        refine TL.done ?_
        refine NX.seq ?_
        refine WC.ret' ?_
        obtain rfl := Option.some.inj hF
        exact NX.end (rs := [.tmp 2]) (vs := [v16]) rfl ⟨rfl, trivial⟩ ⟨_, rfl, _, rfl, ownR.baseN (ownR.wideN hs17 (by omega)) (by omega), he11⟩

-- (loop.example/g00861/impl.edges).setup
def F_impl_edges_setup_L1 (r8 : List (List Int)) (k0 : Int → Int → Option Int) : Nat → Int → Int → Option Int
  | 0 => fun _ _ => none
  | m + 1 => fun i20 i21 => (bif decide (i21 < (r8.length : Int)) then (Option.bind (getI r8 i21) fun x24 => (Option.bind (getI x24 1) fun x34 => (Option.bind (getI x24 0) fun x42 => (F_impl_edges_setup_L1 r8 k0 m (min i20 (IntKind.wrap IntKind.i64 (x34 - x42))) (IntKind.wrap IntKind.i64 (i21 + 1)))))) else (k0 i20 i21))
theorem F_impl_edges_setup_L1_z (r8 : List (List Int)) (k0 : Int → Int → Option Int) (i20 : Int) (i21 : Int) : F_impl_edges_setup_L1 r8 k0 0 i20 i21 = none := rfl
theorem F_impl_edges_setup_L1_s (m : Nat) (r8 : List (List Int)) (k0 : Int → Int → Option Int) (i20 : Int) (i21 : Int) : F_impl_edges_setup_L1 r8 k0 (m + 1) i20 i21 = (bif decide (i21 < (r8.length : Int)) then (Option.bind (getI r8 i21) fun x24 => (Option.bind (getI x24 1) fun x34 => (Option.bind (getI x24 0) fun x42 => (F_impl_edges_setup_L1 r8 k0 m (min i20 (IntKind.wrap IntKind.i64 (x34 - x42))) (IntKind.wrap IntKind.i64 (i21 + 1)))))) else (k0 i20 i21)) := rfl

def F_impl_edges_setup (n : Nat) (a0_x : S_edges) : Option Int := (Option.bind (F_impl_edges_pairs n a0_x) fun r8 => (F_impl_edges_setup_L1 r8 (fun i20 i21 => (some i20)) n a0_x.to_.period_ 0))
set_option maxHeartbeats 40000000 in
theorem W_impl_edges_setup {n : Nat} {a0_x : S_edges} {r : Int} {w : World} (hF : F_impl_edges_setup n a0_x = some r) :
    Calls Tryd.prog 55 [.agg #[.int .i64 a0_x.from_.period_, .int .i64 a0_x.from_.edges_.e0, .int .i64 a0_x.from_.edges_.e1, .int .i64 a0_x.to_.period_, .int .i64 a0_x.to_.edges_.e0, .int .i64 a0_x.to_.edges_.e1, .int .i64 a0_x.ea_, .int .i64 a0_x.eb_, .int .i64 a0_x.hyper_]].toArray w (Ret fun u w2 => u = .int .i64 r ∧ Ext w w2) := by
  refine calls_of Tryd.func55 rfl Tryd.ntmps55 ?_
  have he0 : Ext w w := Ext.refl w
  unfold F_impl_edges_setup at hF
  refine WC.seq ?_
  refine WC.region ?_
  refine TL.eff rfl rfl (eff_box rfl rfl) ?_
  rintro _ w2 ⟨b1, rfl, hn3⟩
  obtain ⟨hn3e, hn3s, hn3x, hb4⟩ := hn3
  have hb4 : Box w2 b1 [.int .i64 a0_x.from_.period_, .int .i64 a0_x.from_.edges_.e0, .int .i64 a0_x.from_.edges_.e1, .int .i64 a0_x.to_.period_, .int .i64 a0_x.to_.edges_.e0, .int .i64 a0_x.to_.edges_.e1, .int .i64 a0_x.ea_, .int .i64 a0_x.eb_, .int .i64 a0_x.hyper_] 86 := hb4
  have he6 : Ext w w2 := Ext.trans he0 hn3x
  have hz7 := (hn3x).size
  have hlo5 : w.heap.size ≤ b1 := by rw [hn3e]; exact (he0).size
  refine TL.yld rfl rfl (yld_assign rfl rfl) ?_
  refine TL.done ?_
  refine NX.seq ?_
  refine WC.seq ?_
  refine WC.region ?_
  refine TL.yld rfl rfl (yld_fieldAddr rfl fo_86_1 rfl) ?_
  refine TL.yld rfl rfl (yld_fieldAddr rfl fo_84_0 rfl) ?_
  refine TL.yld rfl rfl (yld_load1 3 rfl ag_2 rfl (Box.cells hb4) rfl rfl) ?_
  refine TL.yld rfl rfl (yld_assign rfl rfl) ?_
  refine TL.done ?_
  refine NX.seq ?_
  refine WC.seq ?_
  refine WC.seq ?_
  refine WC.region ?_
  refine TL.yld rfl rfl (yld_loadN (us := [.int .i64 a0_x.from_.period_, .int .i64 a0_x.from_.edges_.e0, .int .i64 a0_x.from_.edges_.e1, .int .i64 a0_x.to_.period_, .int .i64 a0_x.to_.edges_.e0, .int .i64 a0_x.to_.edges_.e1, .int .i64 a0_x.ea_, .int .i64 a0_x.eb_, .int .i64 a0_x.hyper_]) rfl ag_86 rfl (Box.cells hb4) cn_86) ?_
  obtain ⟨r8, hr9, hF⟩ := bsome hF
  refine TL.eff rfl rfl (eff_call rfl gf_59 rfl (W_impl_edges_pairs hr9)) ?_
  rintro v12 w10 ⟨_, rfl, hs13, hx11⟩
  have he16 : Ext w w10 := Ext.trans he6 hx11
  have hb4 := Box.ext hb4 hx11
  have hz17 := (hx11).size
  have hbd15 := ownR.blk hs13
  refine TL.yld rfl rfl (yld_len_own (c := (cSl (cInt .i64))) rfl Tryd.underlying38 rfl hs13) ?_
  refine TL.yld rfl rfl (yld_move rfl rfl) ?_
  refine TL.done ?_
  refine NX.seq ?_
  refine WC.block ?_
  refine WC.loop (fun m23 a wl => ∃ (i20 : Int) (i21 : Int), Kn 27 [(3, .int .i64 i20), (10, v12), (11, .int .i64 ((r8.length : Int))), (12, .int .i64 i21)] a ∧ Ext w wl ∧ w10.heap.size ≤ wl.heap.size ∧ ownR (cSl (cInt .i64)) wl (w2.heap.size) (SX (w2.heap.size) wl.heap.size v12) 42 r8 v12 ∧ F_impl_edges_setup_L1 r8 (fun i20 i21 => (some i20)) m23 i20 i21 = some r) n ?_ ?_
  · intro a hK; exact ⟨a0_x.to_.period_, 0, hK.weaken ⟨rfl, rfl, rfl, rfl, trivial⟩, he16, Nat.le_refl _, (ownR.wideN hs13 (by omega)), hF⟩
  · rintro m23 a w18 ⟨i20, i21, hK, he19, hz24, hs22, hF⟩
    revert hK; revert a; refine (?_ : WC _ _ _ _ _ _)
    cases m23 with
    | zero => rw [F_impl_edges_setup_L1_z] at hF; cases hF
    | succ m23 =>
      rw [F_impl_edges_setup_L1_s] at hF
      refine WC.seq ?_
      refine WC.region ?_
      refine TL.yld rfl rfl (yld_lss rfl rfl rfl) ?_
      refine TL.done ?_
      refine NX.seq ?_
      refine WC.seq ?_
      refine WC.cond rfl ?_ ?_
      · intro hc25
        replace hF := bif_t hc25 hF
        refine WC.skip' ?_
        refine NX.seq ?_
        refine WC.seq ?_
        refine WC.block ?_
        refine WC.seq ?_
        refine WC.region ?_
        obtain ⟨x26, hy27, hF⟩ := bsome hF
        refine TL.ye rfl rfl (ye_index_own (c := (cSl (cInt .i64))) rfl Tryd.underlying38 cn_42 rfl rfl hs22 hy27) ?_
        rintro _ ⟨g28, us30, rfl, hg29, hr31, hcl32⟩
        have hr31r := hr31
        obtain ⟨v33, rfl, hs34⟩ := hr31
        have hs35 := slRep.mono hs34 (S' := Iv w2.heap.size w18.heap.size) (fun k h => ⟨h.1, h.2.1⟩) (fun _ _ => rfl)
        refine TL.yld rfl rfl (yld_load1 0 rfl ag_42 rfl hcl32 rfl rfl) ?_
        refine TL.yld rfl rfl (yld_assign rfl rfl) ?_
        refine TL.done ?_
        refine NX.seq ?_
        refine WC.quiet Tryd.hm (by kernel_rfl) ?_
        refine QL.yld rfl rfl (Yld.qui (yld_move rfl rfl)) ?_
        refine QL.yld rfl rfl (Yld.qui (yld_move rfl rfl)) ?_
        obtain ⟨x36, hy37, hF⟩ := bsome hF
        refine QL.ye rfl rfl (ye_index (c := (cInt .i64)) rfl Tryd.underlying42 cn_2 rfl rfl hs35 hy37) ?_
        rintro _ ⟨b38, o39, us40, rfl, hib43, hr41, hcl42⟩
        have hib43 : w2.heap.size ≤ b38 ∧ b38 < w18.heap.size := ⟨hib43.1, by have := hib43.2; omega⟩
        obtain rfl := hr41
        refine QL.yld rfl rfl (Yld.qui (yld_load1 0 rfl ag_2 rfl hcl42 rfl rfl)) ?_
        refine QL.yld rfl rfl (Yld.qui (yld_move rfl rfl)) ?_
        obtain ⟨x44, hy45, hF⟩ := bsome hF
        refine QL.ye rfl rfl (ye_index (c := (cInt .i64)) rfl Tryd.underlying42 cn_2 rfl rfl hs35 hy45) ?_
        rintro _ ⟨b46, o47, us48, rfl, hib51, hr49, hcl50⟩
        have hib51 : w2.heap.size ≤ b46 ∧ b46 < w18.heap.size := ⟨hib51.1, by have := hib51.2; omega⟩
        obtain rfl := hr49
        refine QL.yld rfl rfl (Yld.qui (yld_load1 0 rfl ag_2 rfl hcl50 rfl rfl)) ?_
        refine QL.yld rfl rfl (Yld.qui (yld_sub rfl rfl rfl)) ?_
        refine QL.yld rfl rfl (Yld.qui (yld_min2 rfl rfl rfl)) ?_
        refine QL.yld rfl rfl (Yld.qui (yld_assign rfl rfl)) ?_
        refine QL.done fun w52 hx53 => ?_
        have he54 : Ext w w52 := Ext.trans he19 hx53
        have hs35 := slRep.old hs35 hx53 (by omega)
        have hs22 := ownR.extN hs22 hx53 (by omega)
        have hz55 := (hx53).size
        refine NX.blk_n ?_
        refine NX.seq ?_
        refine WC.region ?_
        refine TL.yld rfl rfl (yld_add rfl rfl rfl) ?_
        refine TL.yld rfl rfl (yld_move rfl rfl) ?_
        refine TL.done ?_
        refine NX.then_n ?_
        intro a hK; exact ⟨m23, Nat.lt_succ_self m23, (min i20 (IntKind.wrap IntKind.i64 (x36 - x44))), (IntKind.wrap IntKind.i64 (i21 + 1)), hK.weaken ⟨rfl, rfl, rfl, rfl, trivial⟩, he54, (by omega), (ownR.wideN hs22 (by omega)), hF⟩
      · intro hc56
        replace hF := bif_f hc56 hF
        refine WC.exit' ?_
        refine NX.then_e ?_
        refine NX.then_e ?_
        refine NX.blk_hit ?_
        refine NX.seq ?_
        refine WC.seq ?_
        refine WC.region ?_
        refine TL.yld rfl rfl (yld_move rfl rfl) ?_
        refine TL.yld rfl rfl (yld_assign rfl rfl) ?_
        refine TL.done ?_
        refine NX.seq ?_
        refine WC.ret' ?_
        obtain rfl := Option.some.inj hF
        exact NX.end (rs := [.tmp 2]) (vs := [.int .i64 i20]) rfl ⟨rfl, trivial⟩ ⟨_, rfl, rfl, he19⟩

-- loop.example/g00861/impl.MulticycleSetup
def F_impl_MulticycleSetup (n : Nat) (a0_list : List S_Clock) (a1_a : Int) (a2_ea : Int) (a3_b : Int) (a4_eb : Int) (a5_cycles : Int) : Option (Int × Int) := (Option.bind (F_impl_edgesOf n a0_list a1_a a2_ea a3_b a4_eb) fun r3 => (bif (r3.2 != 0) then (some (0, r3.2)) else (Option.bind (F_impl_within n a5_cycles 1 16) fun r23 => (bif (!r23) then (some (0, 2)) else (Option.bind (F_impl_edges_setup n r3.1) fun r31 => (some (IntKind.wrap IntKind.i64 (r31 + (IntKind.wrap IntKind.i64 ((IntKind.wrap IntKind.i64 (a5_cycles - 1)) * r3.1.to_.period_))), 0)))))))
set_option maxHeartbeats 40000000 in
theorem W_impl_MulticycleSetup {n : Nat} {a0_list : List S_Clock} {a1_a : Int} {a2_ea : Int} {a3_b : Int} {a4_eb : Int} {a5_cycles : Int} {r : Int × Int} {w : World} {v1 : Value} (hF : F_impl_MulticycleSetup n a0_list a1_a a2_ea a3_b a4_eb a5_cycles = some r) (ha2 : slRep C_Clock w (Iv 0 w.heap.size) a0_list v1) :
    Calls Tryd.prog 20 [v1, .int .i64 a1_a, .int .i64 a2_ea, .int .i64 a3_b, .int .i64 a4_eb, .int .i64 a5_cycles].toArray w (Ret fun u w2 => u = .tuple #[.int .i64 r.1, .int .i64 r.2] ∧ Ext w w2) := by
  refine calls_of Tryd.func20 rfl Tryd.ntmps20 ?_
  have he0 : Ext w w := Ext.refl w
  unfold F_impl_MulticycleSetup at hF
  refine WC.seq ?_
  refine WC.region ?_
  refine TL.yld rfl rfl (yld_assign rfl rfl) ?_
  refine TL.yld rfl rfl (yld_assign rfl rfl) ?_
  refine TL.done ?_
  refine NX.seq ?_
  refine WC.seq ?_
  refine WC.region ?_
  refine TL.yld rfl rfl (yld_move rfl rfl) ?_
  refine TL.yld rfl rfl (yld_move rfl rfl) ?_
  refine TL.yld rfl rfl (yld_move rfl rfl) ?_
  refine TL.yld rfl rfl (yld_move rfl rfl) ?_
  refine TL.yld rfl rfl (yld_move rfl rfl) ?_
  obtain ⟨r3, hr4, hF⟩ := bsome hF
  refine TL.eff rfl rfl (eff_call rfl gf_53 rfl (W_impl_edgesOf hr4 ((slRep.old ha2 he0 (Nat.le_refl _)).wide (Nat.le_refl _) (he0).size))) ?_
  rintro _ w5 ⟨rfl, hx6⟩
  have he7 : Ext w w5 := Ext.trans he0 hx6
  have hz8 := (hx6).size
  refine TL.yld rfl rfl (yld_move rfl rfl) ?_
  refine TL.yld rfl rfl (yld_extract rfl rfl rfl) ?_
  refine TL.yld rfl rfl (yld_extract rfl rfl rfl) ?_
  refine TL.eff rfl rfl (eff_alloc rfl zn_86) ?_
  rintro _ w10 ⟨b9, rfl, hn11⟩
  obtain ⟨hn11e, hn11s, hn11x, hb12⟩ := hn11
  have hb12 : Box w10 b9 [.int .i64 0, .int .i64 0, .int .i64 0, .int .i64 0, .int .i64 0, .int .i64 0, .int .i64 0, .int .i64 0, .int .i64 0] 86 := hb12
  have he14 : Ext w w10 := Ext.trans he7 hn11x
  have hz15 := (hn11x).size
  have hlo13 : w.heap.size ≤ b9 := by rw [hn11e]; exact (he7).size
  refine TL.eff rfl rfl (eff_store rfl rfl rfl hb12 cn_86 rfl rfl) ?_
  rintro _ w16 ⟨hu17, hb18⟩
  have he19 : Ext w w16 := Below.trans he14 (Upd.below hu17 (by omega))
  have hz20 := (hu17).size
  have hb12 : Box w16 b9 [.int .i64 r3.1.from_.period_, .int .i64 r3.1.from_.edges_.e0, .int .i64 r3.1.from_.edges_.e1, .int .i64 r3.1.to_.period_, .int .i64 r3.1.to_.edges_.e0, .int .i64 r3.1.to_.edges_.e1, .int .i64 r3.1.ea_, .int .i64 r3.1.eb_, .int .i64 r3.1.hyper_] 86 := hb18
  refine TL.yld rfl rfl (yld_assign rfl rfl) ?_
  refine TL.done ?_
  refine NX.seq ?_
  refine WC.seq ?_
  refine WC.block ?_
  refine WC.seq ?_
  refine WC.region ?_
  refine TL.yld rfl rfl (yld_move rfl rfl) ?_
  refine TL.yld rfl rfl (yld_neq rfl rfl rfl) ?_
  refine TL.yld rfl rfl (yld_assign rfl rfl) ?_
  refine TL.done ?_
  refine NX.seq ?_
  refine WC.cond rfl ?_ ?_
  · intro hc21
    replace hF := bif_t hc21 hF
    refine WC.seq ?_
    refine WC.region ?_
    refine TL.yld rfl rfl (yld_move rfl rfl) ?_
    refine TL.yld rfl rfl (yld_assign rfl rfl) ?_
    refine TL.yld rfl rfl (yld_assign rfl rfl) ?_
    refine TL.done ?_
    refine NX.seq ?_
    refine WC.ret' ?_
    refine NX.blk_r ?_
    refine NX.then_r ?_
    obtain rfl := Option.some.inj hF
    exact NX.end (rs := [.tmp 12, .tmp 13]) (vs := [.int .i64 0, .int .i64 r3.2]) rfl ⟨rfl, rfl, trivial⟩ ⟨_, rfl, rfl, he19⟩
  · intro hc22
    replace hF := bif_f hc22 hF
    refine WC.seq ?_
    refine WC.region ?_
    refine TL.yld rfl rfl (yld_move rfl rfl) ?_
    obtain ⟨r23, hr24, hF⟩ := bsome hF
    refine TL.eff rfl rfl (eff_call rfl gf_54 rfl (W_impl_within hr24)) ?_
    rintro _ w25 ⟨rfl, hx26⟩
    have he27 : Ext w w25 := Ext.trans he19 hx26
    have hb12 := Box.ext hb12 hx26
    have hz28 := (hx26).size
    refine TL.yld rfl rfl (yld_not rfl rfl) ?_
    refine TL.yld rfl rfl (yld_assign rfl rfl) ?_
    refine TL.done ?_
    refine NX.seq ?_
    refine WC.cond rfl ?_ ?_
    · intro hc29
      replace hF := bif_t hc29 hF
      refine WC.seq ?_
      refine WC.region ?_
      refine TL.yld rfl rfl (yld_assign rfl rfl) ?_
      refine TL.yld rfl rfl (yld_assign rfl rfl) ?_
      refine TL.done ?_
      refine NX.seq ?_
      refine WC.ret' ?_
      refine NX.blk_r ?_
      refine NX.then_r ?_
      obtain rfl := Option.some.inj hF
      exact NX.end (rs := [.tmp 12, .tmp 13]) (vs := [.int .i64 0, .int .i64 2]) rfl ⟨rfl, rfl, trivial⟩ ⟨_, rfl, rfl, he27⟩
    · intro hc30
      replace hF := bif_f hc30 hF
      refine WC.skip' ?_
      refine NX.blk_n ?_
      refine NX.seq ?_
      refine WC.seq ?_
      refine WC.quiet Tryd.hm (by kernel_rfl) ?_
      refine QL.yld rfl rfl (Yld.qui (yld_loadN (us := [.int .i64 r3.1.from_.period_, .int .i64 r3.1.from_.edges_.e0, .int .i64 r3.1.from_.edges_.e1, .int .i64 r3.1.to_.period_, .int .i64 r3.1.to_.edges_.e0, .int .i64 r3.1.to_.edges_.e1, .int .i64 r3.1.ea_, .int .i64 r3.1.eb_, .int .i64 r3.1.hyper_]) rfl ag_86 rfl (Box.cells hb12) cn_86)) ?_
      obtain ⟨r31, hr32, hF⟩ := bsome hF
      refine QL.yld rfl rfl (qui_call rfl gf_55 rfl fun w' hw' => W_impl_edges_setup hr32) ?_
      refine QL.yld rfl rfl (Yld.qui (yld_move rfl rfl)) ?_
      refine QL.yld rfl rfl (Yld.qui (yld_sub rfl rfl rfl)) ?_
      refine QL.yld rfl rfl (Yld.qui (yld_fieldAddr rfl fo_86_1 rfl)) ?_
      refine QL.yld rfl rfl (Yld.qui (yld_fieldAddr rfl fo_84_0 rfl)) ?_
      refine QL.yld rfl rfl (Yld.qui (yld_load1 3 rfl ag_2 rfl (Box.cells hb12) rfl rfl)) ?_
      refine QL.yld rfl rfl (Yld.qui (yld_mul rfl rfl rfl)) ?_
      refine QL.yld rfl rfl (Yld.qui (yld_add rfl rfl rfl)) ?_
      refine QL.yld rfl rfl (Yld.qui (yld_assign rfl rfl)) ?_
      refine QL.yld rfl rfl (Yld.qui (yld_assign rfl rfl)) ?_
      refine QL.done fun w33 hx34 => ?_
      have he35 : Ext w w33 := Ext.trans he27 hx34
      have hb12 := Box.ext hb12 hx34
      have hz36 := (hx34).size
      refine NX.seq ?_
      refine WC.ret' ?_
      obtain rfl := Option.some.inj hF
      exact NX.end (rs := [.tmp 12, .tmp 13]) (vs := [.int .i64 (IntKind.wrap IntKind.i64 (r31 + (IntKind.wrap IntKind.i64 ((IntKind.wrap IntKind.i64 (a5_cycles - 1)) * r3.1.to_.period_)))), .int .i64 0]) rfl ⟨rfl, rfl, trivial⟩ ⟨_, rfl, rfl, he35⟩

-- loop.example/g00861/impl.SetupSeparation
def F_impl_SetupSeparation (n : Nat) (a0_list : List S_Clock) (a1_a : Int) (a2_ea : Int) (a3_b : Int) (a4_eb : Int) : Option (Int × Int) := (Option.bind (F_impl_MulticycleSetup n a0_list a1_a a2_ea a3_b a4_eb 1) fun r3 => (some (r3.1, r3.2)))
set_option maxHeartbeats 40000000 in
theorem W_impl_SetupSeparation {n : Nat} {a0_list : List S_Clock} {a1_a : Int} {a2_ea : Int} {a3_b : Int} {a4_eb : Int} {r : Int × Int} {w : World} {v1 : Value} (hF : F_impl_SetupSeparation n a0_list a1_a a2_ea a3_b a4_eb = some r) (ha2 : slRep C_Clock w (Iv 0 w.heap.size) a0_list v1) :
    Calls Tryd.prog 15 [v1, .int .i64 a1_a, .int .i64 a2_ea, .int .i64 a3_b, .int .i64 a4_eb].toArray w (Ret fun u w2 => u = .tuple #[.int .i64 r.1, .int .i64 r.2] ∧ Ext w w2) := by
  refine calls_of Tryd.func15 rfl Tryd.ntmps15 ?_
  have he0 : Ext w w := Ext.refl w
  unfold F_impl_SetupSeparation at hF
  refine WC.seq ?_
  refine WC.region ?_
  refine TL.yld rfl rfl (yld_assign rfl rfl) ?_
  refine TL.yld rfl rfl (yld_assign rfl rfl) ?_
  refine TL.done ?_
  refine NX.seq ?_
  refine WC.seq ?_
  refine WC.region ?_
  refine TL.yld rfl rfl (yld_move rfl rfl) ?_
  refine TL.yld rfl rfl (yld_move rfl rfl) ?_
  refine TL.yld rfl rfl (yld_move rfl rfl) ?_
  refine TL.yld rfl rfl (yld_move rfl rfl) ?_
  refine TL.yld rfl rfl (yld_move rfl rfl) ?_
  obtain ⟨r3, hr4, hF⟩ := bsome hF
  refine TL.eff rfl rfl (eff_call rfl gf_20 rfl (W_impl_MulticycleSetup hr4 ((slRep.old ha2 he0 (Nat.le_refl _)).wide (Nat.le_refl _) (he0).size))) ?_
  rintro _ w5 ⟨rfl, hx6⟩
  have he7 : Ext w w5 := Ext.trans he0 hx6
  have hz8 := (hx6).size
  refine TL.yld rfl rfl (yld_extract rfl rfl rfl) ?_
  refine TL.yld rfl rfl (yld_extract rfl rfl rfl) ?_
  refine TL.yld rfl rfl (yld_assign rfl rfl) ?_
  refine TL.yld rfl rfl (yld_assign rfl rfl) ?_
  refine TL.done ?_
  refine NX.seq ?_
  refine WC.ret' ?_
  obtain rfl := Option.some.inj hF
  exact NX.end (rs := [.tmp 10, .tmp 11]) (vs := [.int .i64 r3.1, .int .i64 r3.2]) rfl ⟨rfl, rfl, trivial⟩ ⟨_, rfl, rfl, he7⟩

-- (loop.example/g00861/impl.edges).hold
def F_impl_edges_hold_L1 (a0_x : S_edges) (r8 : List (List Int)) (k0 : Int → Int → Option Int) : Nat → Int → Int → Option Int
  | 0 => fun _ _ => none
  | m + 1 => fun i20 i21 => (bif decide (i21 < (r8.length : Int)) then (Option.bind (getI r8 i21) fun x25 => (Option.bind (getI x25 1) fun x35 => (Option.bind (getI x25 0) fun x43 => (F_impl_edges_hold_L1 a0_x r8 k0 m (max i20 (IntKind.wrap IntKind.i64 ((IntKind.wrap IntKind.i64 (x35 - x43)) - (min a0_x.to_.period_ a0_x.from_.period_)))) (IntKind.wrap IntKind.i64 (i21 + 1)))))) else (k0 i20 i21))
theorem F_impl_edges_hold_L1_z (a0_x : S_edges) (r8 : List (List Int)) (k0 : Int → Int → Option Int) (i20 : Int) (i21 : Int) : F_impl_edges_hold_L1 a0_x r8 k0 0 i20 i21 = none := rfl
theorem F_impl_edges_hold_L1_s (m : Nat) (a0_x : S_edges) (r8 : List (List Int)) (k0 : Int → Int → Option Int) (i20 : Int) (i21 : Int) : F_impl_edges_hold_L1 a0_x r8 k0 (m + 1) i20 i21 = (bif decide (i21 < (r8.length : Int)) then (Option.bind (getI r8 i21) fun x25 => (Option.bind (getI x25 1) fun x35 => (Option.bind (getI x25 0) fun x43 => (F_impl_edges_hold_L1 a0_x r8 k0 m (max i20 (IntKind.wrap IntKind.i64 ((IntKind.wrap IntKind.i64 (x35 - x43)) - (min a0_x.to_.period_ a0_x.from_.period_)))) (IntKind.wrap IntKind.i64 (i21 + 1)))))) else (k0 i20 i21)) := rfl

def F_impl_edges_hold (n : Nat) (a0_x : S_edges) : Option Int := (Option.bind (F_impl_edges_pairs n a0_x) fun r8 => (F_impl_edges_hold_L1 a0_x r8 (fun i20 i21 => (some i20)) n (IntKind.wrap IntKind.i64 ((IntKind.wrap IntKind.i64 (0 - a0_x.to_.period_)) - a0_x.from_.period_)) 0))
set_option maxHeartbeats 40000000 in
theorem W_impl_edges_hold {n : Nat} {a0_x : S_edges} {r : Int} {w : World} (hF : F_impl_edges_hold n a0_x = some r) :
    Calls Tryd.prog 56 [.agg #[.int .i64 a0_x.from_.period_, .int .i64 a0_x.from_.edges_.e0, .int .i64 a0_x.from_.edges_.e1, .int .i64 a0_x.to_.period_, .int .i64 a0_x.to_.edges_.e0, .int .i64 a0_x.to_.edges_.e1, .int .i64 a0_x.ea_, .int .i64 a0_x.eb_, .int .i64 a0_x.hyper_]].toArray w (Ret fun u w2 => u = .int .i64 r ∧ Ext w w2) := by
  refine calls_of Tryd.func56 rfl Tryd.ntmps56 ?_
  have he0 : Ext w w := Ext.refl w
  unfold F_impl_edges_hold at hF
  refine WC.seq ?_
  refine WC.region ?_
  refine TL.eff rfl rfl (eff_box rfl rfl) ?_
  rintro _ w2 ⟨b1, rfl, hn3⟩
  obtain ⟨hn3e, hn3s, hn3x, hb4⟩ := hn3
  have hb4 : Box w2 b1 [.int .i64 a0_x.from_.period_, .int .i64 a0_x.from_.edges_.e0, .int .i64 a0_x.from_.edges_.e1, .int .i64 a0_x.to_.period_, .int .i64 a0_x.to_.edges_.e0, .int .i64 a0_x.to_.edges_.e1, .int .i64 a0_x.ea_, .int .i64 a0_x.eb_, .int .i64 a0_x.hyper_] 86 := hb4
  have he6 : Ext w w2 := Ext.trans he0 hn3x
  have hz7 := (hn3x).size
  have hlo5 : w.heap.size ≤ b1 := by rw [hn3e]; exact (he0).size
  refine TL.yld rfl rfl (yld_assign rfl rfl) ?_
  refine TL.done ?_
  refine NX.seq ?_
  refine WC.seq ?_
  refine WC.region ?_
  refine TL.yld rfl rfl (yld_fieldAddr rfl fo_86_1 rfl) ?_
  refine TL.yld rfl rfl (yld_fieldAddr rfl fo_84_0 rfl) ?_
  refine TL.yld rfl rfl (yld_load1 3 rfl ag_2 rfl (Box.cells hb4) rfl rfl) ?_
  refine TL.yld rfl rfl (yld_neg rfl rfl) ?_
  refine TL.yld rfl rfl (yld_fieldAddr rfl fo_86_0 rfl) ?_
  refine TL.yld rfl rfl (yld_fieldAddr rfl fo_84_0 rfl) ?_
  refine TL.yld rfl rfl (yld_load1 0 rfl ag_2 rfl (Box.cells hb4) rfl rfl) ?_
  refine TL.yld rfl rfl (yld_sub rfl rfl rfl) ?_
  refine TL.yld rfl rfl (yld_assign rfl rfl) ?_
  refine TL.done ?_
  refine NX.seq ?_
  refine WC.seq ?_
  refine WC.seq ?_
  refine WC.region ?_
  refine TL.yld rfl rfl (yld_loadN (us := [.int .i64 a0_x.from_.period_, .int .i64 a0_x.from_.edges_.e0, .int .i64 a0_x.from_.edges_.e1, .int .i64 a0_x.to_.period_, .int .i64 a0_x.to_.edges_.e0, .int .i64 a0_x.to_.edges_.e1, .int .i64 a0_x.ea_, .int .i64 a0_x.eb_, .int .i64 a0_x.hyper_]) rfl ag_86 rfl (Box.cells hb4) cn_86) ?_
  obtain ⟨r8, hr9, hF⟩ := bsome hF
  refine TL.eff rfl rfl (eff_call rfl gf_59 rfl (W_impl_edges_pairs hr9)) ?_
  rintro v12 w10 ⟨_, rfl, hs13, hx11⟩
  have he16 : Ext w w10 := Ext.trans he6 hx11
  have hb4 := Box.ext hb4 hx11
  have hz17 := (hx11).size
  have hbd15 := ownR.blk hs13
  refine TL.yld rfl rfl (yld_len_own (c := (cSl (cInt .i64))) rfl Tryd.underlying38 rfl hs13) ?_
  refine TL.yld rfl rfl (yld_move rfl rfl) ?_
  refine TL.done ?_
  refine NX.seq ?_
  refine WC.block ?_
  refine WC.loop (fun m24 a wl => ∃ (i20 : Int) (i21 : Int), Kn 40 [(1, .pointer (some ⟨b1, 0, none⟩)), (3, .int .i64 i20), (15, v12), (16, .int .i64 ((r8.length : Int))), (17, .int .i64 i21)] a ∧ Ext w wl ∧ w10.heap.size ≤ wl.heap.size ∧ Box wl b1 [.int .i64 a0_x.from_.period_, .int .i64 a0_x.from_.edges_.e0, .int .i64 a0_x.from_.edges_.e1, .int .i64 a0_x.to_.period_, .int .i64 a0_x.to_.edges_.e0, .int .i64 a0_x.to_.edges_.e1, .int .i64 a0_x.ea_, .int .i64 a0_x.eb_, .int .i64 a0_x.hyper_] 86 ∧ ownR (cSl (cInt .i64)) wl (w2.heap.size) (SX (w2.heap.size) wl.heap.size v12) 42 r8 v12 ∧ F_impl_edges_hold_L1 a0_x r8 (fun i20 i21 => (some i20)) m24 i20 i21 = some r) n ?_ ?_
  · intro a hK; exact ⟨(IntKind.wrap IntKind.i64 ((IntKind.wrap IntKind.i64 (0 - a0_x.to_.period_)) - a0_x.from_.period_)), 0, hK.weaken ⟨rfl, rfl, rfl, rfl, rfl, trivial⟩, he16, Nat.le_refl _, hb4, (ownR.wideN hs13 (by omega)), hF⟩
  · rintro m24 a w18 ⟨i20, i21, hK, he19, hz25, hb22, hs23, hF⟩
    revert hK; revert a; refine (?_ : WC _ _ _ _ _ _)
    cases m24 with
    | zero => rw [F_impl_edges_hold_L1_z] at hF; cases hF
    | succ m24 =>
      rw [F_impl_edges_hold_L1_s] at hF
      refine WC.seq ?_
      refine WC.region ?_
      refine TL.yld rfl rfl (yld_lss rfl rfl rfl) ?_
      refine TL.done ?_
      refine NX.seq ?_
      refine WC.seq ?_
      refine WC.cond rfl ?_ ?_
      · intro hc26
        replace hF := bif_t hc26 hF
        refine WC.skip' ?_
        refine NX.seq ?_
        refine WC.seq ?_
        refine WC.block ?_
        refine WC.seq ?_
        refine WC.region ?_
        obtain ⟨x27, hy28, hF⟩ := bsome hF
        refine TL.ye rfl rfl (ye_index_own (c := (cSl (cInt .i64))) rfl Tryd.underlying38 cn_42 rfl rfl hs23 hy28) ?_
        rintro _ ⟨g29, us31, rfl, hg30, hr32, hcl33⟩
        have hr32r := hr32
        obtain ⟨v34, rfl, hs35⟩ := hr32
        have hs36 := slRep.mono hs35 (S' := Iv w2.heap.size w18.heap.size) (fun k h => ⟨h.1, h.2.1⟩) (fun _ _ => rfl)
        refine TL.yld rfl rfl (yld_load1 0 rfl ag_42 rfl hcl33 rfl rfl) ?_
        refine TL.yld rfl rfl (yld_assign rfl rfl) ?_
        refine TL.done ?_
        refine NX.seq ?_
        refine WC.quiet Tryd.hm (by kernel_rfl) ?_
        refine QL.yld rfl rfl (Yld.qui (yld_move rfl rfl)) ?_
        refine QL.yld rfl rfl (Yld.qui (yld_move rfl rfl)) ?_
        obtain ⟨x37, hy38, hF⟩ := bsome hF
        refine QL.ye rfl rfl (ye_index (c := (cInt .i64)) rfl Tryd.underlying42 cn_2 rfl rfl hs36 hy38) ?_
        rintro _ ⟨b39, o40, us41, rfl, hib44, hr42, hcl43⟩
        have hib44 : w2.heap.size ≤ b39 ∧ b39 < w18.heap.size := ⟨hib44.1, by have := hib44.2; omega⟩
        obtain rfl := hr42
        refine QL.yld rfl rfl (Yld.qui (yld_load1 0 rfl ag_2 rfl hcl43 rfl rfl)) ?_
        refine QL.yld rfl rfl (Yld.qui (yld_move rfl rfl)) ?_
        obtain ⟨x45, hy46, hF⟩ := bsome hF
        refine QL.ye rfl rfl (ye_index (c := (cInt .i64)) rfl Tryd.underlying42 cn_2 rfl rfl hs36 hy46) ?_
        rintro _ ⟨b47, o48, us49, rfl, hib52, hr50, hcl51⟩
        have hib52 : w2.heap.size ≤ b47 ∧ b47 < w18.heap.size := ⟨hib52.1, by have := hib52.2; omega⟩
        obtain rfl := hr50
        refine QL.yld rfl rfl (Yld.qui (yld_load1 0 rfl ag_2 rfl hcl51 rfl rfl)) ?_
        refine QL.yld rfl rfl (Yld.qui (yld_sub rfl rfl rfl)) ?_
        refine QL.yld rfl rfl (Yld.qui (yld_fieldAddr rfl fo_86_1 rfl)) ?_
        refine QL.yld rfl rfl (Yld.qui (yld_fieldAddr rfl fo_84_0 rfl)) ?_
        refine QL.yld rfl rfl (Yld.qui (yld_load1 3 rfl ag_2 rfl (Box.cells hb22) rfl rfl)) ?_
        refine QL.yld rfl rfl (Yld.qui (yld_fieldAddr rfl fo_86_0 rfl)) ?_
        refine QL.yld rfl rfl (Yld.qui (yld_fieldAddr rfl fo_84_0 rfl)) ?_
        refine QL.yld rfl rfl (Yld.qui (yld_load1 0 rfl ag_2 rfl (Box.cells hb22) rfl rfl)) ?_
        refine QL.yld rfl rfl (Yld.qui (yld_min2 rfl rfl rfl)) ?_
        refine QL.yld rfl rfl (Yld.qui (yld_sub rfl rfl rfl)) ?_
        refine QL.yld rfl rfl (Yld.qui (yld_max2 rfl rfl rfl)) ?_
        refine QL.yld rfl rfl (Yld.qui (yld_assign rfl rfl)) ?_
        refine QL.done fun w53 hx54 => ?_
        have he55 : Ext w w53 := Ext.trans he19 hx54
        have hb22 := Box.ext hb22 hx54
        have hs36 := slRep.old hs36 hx54 (by omega)
        have hs23 := ownR.extN hs23 hx54 (by omega)
        have hz56 := (hx54).size
        refine NX.blk_n ?_
        refine NX.seq ?_
        refine WC.region ?_
        refine TL.yld rfl rfl (yld_add rfl rfl rfl) ?_
        refine TL.yld rfl rfl (yld_move rfl rfl) ?_
        refine TL.done ?_
        refine NX.then_n ?_
        intro a hK; exact ⟨m24, Nat.lt_succ_self m24, (max i20 (IntKind.wrap IntKind.i64 ((IntKind.wrap IntKind.i64 (x37 - x45)) - (min a0_x.to_.period_ a0_x.from_.period_)))), (IntKind.wrap IntKind.i64 (i21 + 1)), hK.weaken ⟨rfl, rfl, rfl, rfl, rfl, trivial⟩, he55, (by omega), hb22, (ownR.wideN hs23 (by omega)), hF⟩
      · intro hc57
        replace hF := bif_f hc57 hF
        refine WC.exit' ?_
        refine NX.then_e ?_
        refine NX.then_e ?_
        refine NX.blk_hit ?_
        refine NX.seq ?_
        refine WC.seq ?_
        refine WC.region ?_
        refine TL.yld rfl rfl (yld_move rfl rfl) ?_
        refine TL.yld rfl rfl (yld_assign rfl rfl) ?_
        refine TL.done ?_
        refine NX.seq ?_
        refine WC.ret' ?_
        obtain rfl := Option.some.inj hF
        exact NX.end (rs := [.tmp 2]) (vs := [.int .i64 i20]) rfl ⟨rfl, trivial⟩ ⟨_, rfl, rfl, he19⟩

-- loop.example/g00861/impl.MulticycleHold
def F_impl_MulticycleHold (n : Nat) (a0_list : List S_Clock) (a1_a : Int) (a2_ea : Int) (a3_b : Int) (a4_eb : Int) (a5_cycles : Int) (a6_back : Int) : Option (Int × Int) := (Option.bind (F_impl_edgesOf n a0_list a1_a a2_ea a3_b a4_eb) fun r3 => (bif (r3.2 != 0) then (some (0, r3.2)) else (Option.bind (F_impl_within n a5_cycles 1 16) fun r23 => (Option.bind (bif (!r23) then (some true) else (Option.bind (F_impl_within n a6_back 0 a5_cycles) fun r29 => (some (!r29)))) fun c29 => (bif c29 then (some (0, 2)) else (Option.bind (F_impl_edges_hold n r3.1) fun r44 => (some (IntKind.wrap IntKind.i64 (r44 + (IntKind.wrap IntKind.i64 ((IntKind.wrap IntKind.i64 ((IntKind.wrap IntKind.i64 (a5_cycles - 1)) - a6_back)) * r3.1.to_.period_))), 0))))))))
set_option maxHeartbeats 40000000 in
theorem W_impl_MulticycleHold {n : Nat} {a0_list : List S_Clock} {a1_a : Int} {a2_ea : Int} {a3_b : Int} {a4_eb : Int} {a5_cycles : Int} {a6_back : Int} {r : Int × Int} {w : World} {v1 : Value} (hF : F_impl_MulticycleHold n a0_list a1_a a2_ea a3_b a4_eb a5_cycles a6_back = some r) (ha2 : slRep C_Clock w (Iv 0 w.heap.size) a0_list v1) :
    Calls Tryd.prog 22 [v1, .int .i64 a1_a, .int .i64 a2_ea, .int .i64 a3_b, .int .i64 a4_eb, .int .i64 a5_cycles, .int .i64 a6_back].toArray w (Ret fun u w2 => u = .tuple #[.int .i64 r.1, .int .i64 r.2] ∧ Ext w w2) := by
  refine calls_of Tryd.func22 rfl Tryd.ntmps22 ?_
  have he0 : Ext w w := Ext.refl w
  unfold F_impl_MulticycleHold at hF
  refine WC.seq ?_
  refine WC.region ?_
  refine TL.yld rfl rfl (yld_assign rfl rfl) ?_
  refine TL.yld rfl rfl (yld_assign rfl rfl) ?_
  refine TL.done ?_
  refine NX.seq ?_
  refine WC.seq ?_
  refine WC.region ?_
  refine TL.yld rfl rfl (yld_move rfl rfl) ?_
  refine TL.yld rfl rfl (yld_move rfl rfl) ?_
  refine TL.yld rfl rfl (yld_move rfl rfl) ?_
  refine TL.yld rfl rfl (yld_move rfl rfl) ?_
  refine TL.yld rfl rfl (yld_move rfl rfl) ?_
  obtain ⟨r3, hr4, hF⟩ := bsome hF
  refine TL.eff rfl rfl (eff_call rfl gf_53 rfl (W_impl_edgesOf hr4 ((slRep.old ha2 he0 (Nat.le_refl _)).wide (Nat.le_refl _) (he0).size))) ?_
  rintro _ w5 ⟨rfl, hx6⟩
  have he7 : Ext w w5 := Ext.trans he0 hx6
  have hz8 := (hx6).size
  refine TL.yld rfl rfl (yld_move rfl rfl) ?_
  refine TL.yld rfl rfl (yld_extract rfl rfl rfl) ?_
  refine TL.yld rfl rfl (yld_extract rfl rfl rfl) ?_
  refine TL.eff rfl rfl (eff_alloc rfl zn_86) ?_
  rintro _ w10 ⟨b9, rfl, hn11⟩
  obtain ⟨hn11e, hn11s, hn11x, hb12⟩ := hn11
  have hb12 : Box w10 b9 [.int .i64 0, .int .i64 0, .int .i64 0, .int .i64 0, .int .i64 0, .int .i64 0, .int .i64 0, .int .i64 0, .int .i64 0] 86 := hb12
  have he14 : Ext w w10 := Ext.trans he7 hn11x
  have hz15 := (hn11x).size
  have hlo13 : w.heap.size ≤ b9 := by rw [hn11e]; exact (he7).size
  refine TL.eff rfl rfl (eff_store rfl rfl rfl hb12 cn_86 rfl rfl) ?_
  rintro _ w16 ⟨hu17, hb18⟩
  have he19 : Ext w w16 := Below.trans he14 (Upd.below hu17 (by omega))
  have hz20 := (hu17).size
  have hb12 : Box w16 b9 [.int .i64 r3.1.from_.period_, .int .i64 r3.1.from_.edges_.e0, .int .i64 r3.1.from_.edges_.e1, .int .i64 r3.1.to_.period_, .int .i64 r3.1.to_.edges_.e0, .int .i64 r3.1.to_.edges_.e1, .int .i64 r3.1.ea_, .int .i64 r3.1.eb_, .int .i64 r3.1.hyper_] 86 := hb18
  refine TL.yld rfl rfl (yld_assign rfl rfl) ?_
  refine TL.done ?_
  refine NX.seq ?_
  refine WC.seq ?_
  refine WC.block ?_
  refine WC.seq ?_
  refine WC.region ?_
  refine TL.yld rfl rfl (yld_move rfl rfl) ?_
  refine TL.yld rfl rfl (yld_neq rfl rfl rfl) ?_
  refine TL.yld rfl rfl (yld_assign rfl rfl) ?_
  refine TL.done ?_
  refine NX.seq ?_
  refine WC.cond rfl ?_ ?_
  · intro hc21
    replace hF := bif_t hc21 hF
    refine WC.seq ?_
    refine WC.region ?_
    refine TL.yld rfl rfl (yld_move rfl rfl) ?_
    refine TL.yld rfl rfl (yld_assign rfl rfl) ?_
    refine TL.yld rfl rfl (yld_assign rfl rfl) ?_
    refine TL.done ?_
    refine NX.seq ?_
    refine WC.ret' ?_
    refine NX.blk_r ?_
    refine NX.then_r ?_
    obtain rfl := Option.some.inj hF
    exact NX.end (rs := [.tmp 14, .tmp 15]) (vs := [.int .i64 0, .int .i64 r3.2]) rfl ⟨rfl, rfl, trivial⟩ ⟨_, rfl, rfl, he19⟩
  · intro hc22
    replace hF := bif_f hc22 hF
    refine WC.seq ?_
    refine WC.region ?_
    refine TL.yld rfl rfl (yld_move rfl rfl) ?_
    obtain ⟨r23, hr24, hF⟩ := bsome hF
    refine TL.eff rfl rfl (eff_call rfl gf_54 rfl (W_impl_within hr24)) ?_
    rintro _ w25 ⟨rfl, hx26⟩
    have he27 : Ext w w25 := Ext.trans he19 hx26
    have hb12 := Box.ext hb12 hx26
    have hz28 := (hx26).size
    refine TL.yld rfl rfl (yld_not rfl rfl) ?_
    refine TL.yld rfl rfl (yld_move rfl rfl) ?_
    obtain ⟨c29, hb30, hF⟩ := bsome hF
    refine TL.cut 5 [(5, .int .i64 a5_cycles), (6, .int .i64 a6_back), (16, .pointer (some ⟨b9, 0, none⟩)), (40, .bool c29)] (fun w' => Ext w25 w') ?_ ?_
    · rcases Bool.eq_false_or_eq_true (!r23) with hg31 | hg31
      ·
        rw [hg31] at hb30; simp only [cond_true, cond_false] at hb30
        refine TL.gnu (j := 3) (t := 35) rfl rfl rfl hg31 rfl ?_
        refine TL.gnu (j := 3) (t := 35) rfl rfl rfl hg31 rfl ?_
        refine TL.gnu (j := 3) (t := 35) rfl rfl rfl hg31 rfl ?_
        refine TL.gnu (j := 3) (t := 35) rfl rfl rfl hg31 rfl ?_
        obtain rfl := Option.some.inj hb30
        refine TL.yld rfl rfl (yld_pick_t rfl rfl hg31 rfl) ?_
        exact TL.nil fun a h => ⟨h.weaken ⟨rfl, rfl, rfl, rfl, trivial⟩, Ext.refl _⟩
      ·
        rw [hg31] at hb30; simp only [cond_true, cond_false] at hb30
        replace hF := hb30
        refine TL.gy (j := 3) (t := 35) rfl rfl rfl hg31 rfl (yld_move rfl rfl) ?_
        refine TL.gy (j := 3) (t := 35) rfl rfl rfl hg31 rfl (yld_move rfl rfl) ?_
        obtain ⟨r32, hr33, hF⟩ := bsome hF
        refine TL.ge (j := 3) (t := 35) rfl rfl rfl hg31 rfl (eff_call rfl gf_54 rfl (W_impl_within hr33)) ?_
        rintro _ w34 ⟨rfl, hx35⟩
        have he36 : Ext w w34 := Ext.trans he27 hx35
        have hb12 := Box.ext hb12 hx35
        have hz37 := (hx35).size
        refine TL.gy (j := 3) (t := 35) rfl rfl rfl hg31 rfl (yld_not rfl rfl) ?_
        obtain rfl := Option.some.inj hF
        refine TL.yld rfl rfl (yld_pick_f rfl rfl hg31 rfl) ?_
        exact TL.nil fun a h => ⟨h.weaken ⟨rfl, rfl, rfl, rfl, trivial⟩, hx35⟩
    intro w38 hx39
    have he40 : Ext w w38 := Ext.trans he27 hx39
    have hb12 := Box.ext hb12 hx39
    have hz41 := (hx39).size
    refine TL.yld rfl rfl (yld_assign rfl rfl) ?_
    refine TL.done ?_
    refine NX.seq ?_
    refine WC.cond rfl ?_ ?_
    · intro hc42
      replace hF := bif_t hc42 hF
      refine WC.seq ?_
      refine WC.region ?_
      refine TL.yld rfl rfl (yld_assign rfl rfl) ?_
      refine TL.yld rfl rfl (yld_assign rfl rfl) ?_
      refine TL.done ?_
      refine NX.seq ?_
      refine WC.ret' ?_
      refine NX.blk_r ?_
      refine NX.then_r ?_
      obtain rfl := Option.some.inj hF
      exact NX.end (rs := [.tmp 14, .tmp 15]) (vs := [.int .i64 0, .int .i64 2]) rfl ⟨rfl, rfl, trivial⟩ ⟨_, rfl, rfl, he40⟩
    · intro hc43
      replace hF := bif_f hc43 hF
      refine WC.skip' ?_
      refine NX.blk_n ?_
      refine NX.seq ?_
      refine WC.seq ?_
      refine WC.quiet Tryd.hm (by kernel_rfl) ?_
      refine QL.yld rfl rfl (Yld.qui (yld_loadN (us := [.int .i64 r3.1.from_.period_, .int .i64 r3.1.from_.edges_.e0, .int .i64 r3.1.from_.edges_.e1, .int .i64 r3.1.to_.period_, .int .i64 r3.1.to_.edges_.e0, .int .i64 r3.1.to_.edges_.e1, .int .i64 r3.1.ea_, .int .i64 r3.1.eb_, .int .i64 r3.1.hyper_]) rfl ag_86 rfl (Box.cells hb12) cn_86)) ?_
      obtain ⟨r44, hr45, hF⟩ := bsome hF
      refine QL.yld rfl rfl (qui_call rfl gf_56 rfl fun w' hw' => W_impl_edges_hold hr45) ?_
      refine QL.yld rfl rfl (Yld.qui (yld_move rfl rfl)) ?_
      refine QL.yld rfl rfl (Yld.qui (yld_sub rfl rfl rfl)) ?_
      refine QL.yld rfl rfl (Yld.qui (yld_move rfl rfl)) ?_
      refine QL.yld rfl rfl (Yld.qui (yld_sub rfl rfl rfl)) ?_
      refine QL.yld rfl rfl (Yld.qui (yld_fieldAddr rfl fo_86_1 rfl)) ?_
      refine QL.yld rfl rfl (Yld.qui (yld_fieldAddr rfl fo_84_0 rfl)) ?_
      refine QL.yld rfl rfl (Yld.qui (yld_load1 3 rfl ag_2 rfl (Box.cells hb12) rfl rfl)) ?_
      refine QL.yld rfl rfl (Yld.qui (yld_mul rfl rfl rfl)) ?_
      refine QL.yld rfl rfl (Yld.qui (yld_add rfl rfl rfl)) ?_
      refine QL.yld rfl rfl (Yld.qui (yld_assign rfl rfl)) ?_
      refine QL.yld rfl rfl (Yld.qui (yld_assign rfl rfl)) ?_
      refine QL.done fun w46 hx47 => ?_
      have he48 : Ext w w46 := Ext.trans he40 hx47
      have hb12 := Box.ext hb12 hx47
      have hz49 := (hx47).size
      refine NX.seq ?_
      refine WC.ret' ?_
      obtain rfl := Option.some.inj hF
      exact NX.end (rs := [.tmp 14, .tmp 15]) (vs := [.int .i64 (IntKind.wrap IntKind.i64 (r44 + (IntKind.wrap IntKind.i64 ((IntKind.wrap IntKind.i64 ((IntKind.wrap IntKind.i64 (a5_cycles - 1)) - a6_back)) * r3.1.to_.period_)))), .int .i64 0]) rfl ⟨rfl, rfl, trivial⟩ ⟨_, rfl, rfl, he48⟩

-- loop.example/g00861/impl.HoldSeparation
def F_impl_HoldSeparation (n : Nat) (a0_list : List S_Clock) (a1_a : Int) (a2_ea : Int) (a3_b : Int) (a4_eb : Int) : Option (Int × Int) := (Option.bind (F_impl_MulticycleHold n a0_list a1_a a2_ea a3_b a4_eb 1 0) fun r3 => (some (r3.1, r3.2)))
set_option maxHeartbeats 40000000 in
theorem W_impl_HoldSeparation {n : Nat} {a0_list : List S_Clock} {a1_a : Int} {a2_ea : Int} {a3_b : Int} {a4_eb : Int} {r : Int × Int} {w : World} {v1 : Value} (hF : F_impl_HoldSeparation n a0_list a1_a a2_ea a3_b a4_eb = some r) (ha2 : slRep C_Clock w (Iv 0 w.heap.size) a0_list v1) :
    Calls Tryd.prog 18 [v1, .int .i64 a1_a, .int .i64 a2_ea, .int .i64 a3_b, .int .i64 a4_eb].toArray w (Ret fun u w2 => u = .tuple #[.int .i64 r.1, .int .i64 r.2] ∧ Ext w w2) := by
  refine calls_of Tryd.func18 rfl Tryd.ntmps18 ?_
  have he0 : Ext w w := Ext.refl w
  unfold F_impl_HoldSeparation at hF
  refine WC.seq ?_
  refine WC.region ?_
  refine TL.yld rfl rfl (yld_assign rfl rfl) ?_
  refine TL.yld rfl rfl (yld_assign rfl rfl) ?_
  refine TL.done ?_
  refine NX.seq ?_
  refine WC.seq ?_
  refine WC.region ?_
  refine TL.yld rfl rfl (yld_move rfl rfl) ?_
  refine TL.yld rfl rfl (yld_move rfl rfl) ?_
  refine TL.yld rfl rfl (yld_move rfl rfl) ?_
  refine TL.yld rfl rfl (yld_move rfl rfl) ?_
  refine TL.yld rfl rfl (yld_move rfl rfl) ?_
  obtain ⟨r3, hr4, hF⟩ := bsome hF
  refine TL.eff rfl rfl (eff_call rfl gf_22 rfl (W_impl_MulticycleHold hr4 ((slRep.old ha2 he0 (Nat.le_refl _)).wide (Nat.le_refl _) (he0).size))) ?_
  rintro _ w5 ⟨rfl, hx6⟩
  have he7 : Ext w w5 := Ext.trans he0 hx6
  have hz8 := (hx6).size
  refine TL.yld rfl rfl (yld_extract rfl rfl rfl) ?_
  refine TL.yld rfl rfl (yld_extract rfl rfl rfl) ?_
  refine TL.yld rfl rfl (yld_assign rfl rfl) ?_
  refine TL.yld rfl rfl (yld_assign rfl rfl) ?_
  refine TL.done ?_
  refine NX.seq ?_
  refine WC.ret' ?_
  obtain rfl := Option.some.inj hF
  exact NX.end (rs := [.tmp 10, .tmp 11]) (vs := [.int .i64 r3.1, .int .i64 r3.2]) rfl ⟨rfl, rfl, trivial⟩ ⟨_, rfl, rfl, he7⟩

-- loop.example/g00861/laws.big
def F_laws_big (n : Nat) (a0_code : List Int) : Option Bool := (some (decide ((a0_code.length : Int) > 4096)))
set_option maxHeartbeats 40000000 in
theorem W_laws_big {n : Nat} {a0_code : List Int} {r : Bool} {w : World} {v1 : Value} (hF : F_laws_big n a0_code = some r) (ha2 : slRep (cInt .u8) w (Iv 0 w.heap.size) a0_code v1) :
    Calls Tryd.prog 23 [v1].toArray w (Ret fun u w2 => u = .bool r ∧ Ext w w2) := by
  refine calls_of Tryd.func23 rfl Tryd.ntmps23 ?_
  have he0 : Ext w w := Ext.refl w
  unfold F_laws_big at hF
  refine WC.seq ?_
  refine WC.region ?_
  refine TL.yld rfl rfl (yld_assign rfl rfl) ?_
  refine TL.done ?_
  refine NX.seq ?_
  refine WC.seq ?_
  refine WC.region ?_
  refine TL.yld rfl rfl (yld_move rfl rfl) ?_
  refine TL.yld rfl rfl (ye_len (c := (cInt .u8)) rfl Tryd.underlying34 rfl (slRep.old ha2 he0 (Nat.le_refl _))) ?_
  refine TL.yld rfl rfl (yld_gtr rfl rfl rfl) ?_
  refine TL.yld rfl rfl (yld_assign rfl rfl) ?_
  refine TL.done ?_
  refine NX.seq ?_
  refine WC.ret' ?_
  obtain rfl := Option.some.inj hF
  exact NX.end (rs := [.tmp 2]) (vs := [.bool (decide ((a0_code.length : Int) > 4096))]) rfl ⟨rfl, trivial⟩ ⟨_, rfl, rfl, he0⟩

-- loop.example/g00861/spec.l01From
def F_spec_l01From_L1 (a0_code : List Int) (k0 : Int → Int → Int → Option S_l01Source) : Nat → Int → Int → Int → Option S_l01Source
  | 0 => fun _ _ _ => none
  | m + 1 => fun i12 i14 i15 => (bif ((decide (i12 < (a0_code.length : Int))) && (decide (i12 < 64))) then (Option.bind (getI a0_code i12) fun x22 => (F_spec_l01From_L1 a0_code k0 m (IntKind.wrap IntKind.i64 (i12 + 1)) i14 (Int.tmod (IntKind.wrap IntKind.i64 ((IntKind.wrap IntKind.i64 (i15 * 31)) + (IntKind.wrap IntKind.i64 x22))) 2147483647))) else (k0 i12 i14 i15))
theorem F_spec_l01From_L1_z (a0_code : List Int) (k0 : Int → Int → Int → Option S_l01Source) (i12 : Int) (i14 : Int) (i15 : Int) : F_spec_l01From_L1 a0_code k0 0 i12 i14 i15 = none := rfl
theorem F_spec_l01From_L1_s (m : Nat) (a0_code : List Int) (k0 : Int → Int → Int → Option S_l01Source) (i12 : Int) (i14 : Int) (i15 : Int) : F_spec_l01From_L1 a0_code k0 (m + 1) i12 i14 i15 = (bif ((decide (i12 < (a0_code.length : Int))) && (decide (i12 < 64))) then (Option.bind (getI a0_code i12) fun x22 => (F_spec_l01From_L1 a0_code k0 m (IntKind.wrap IntKind.i64 (i12 + 1)) i14 (Int.tmod (IntKind.wrap IntKind.i64 ((IntKind.wrap IntKind.i64 (i15 * 31)) + (IntKind.wrap IntKind.i64 x22))) 2147483647))) else (k0 i12 i14 i15)) := rfl

def F_spec_l01From (n : Nat) (a0_code : List Int) : Option S_l01Source := (F_spec_l01From_L1 a0_code (fun i12 i14 i15 => (some ((S_l01Source.mk a0_code i14 i15)))) n 0 0 12345)
set_option maxHeartbeats 40000000 in
theorem W_spec_l01From {n : Nat} {a0_code : List Int} {r : S_l01Source} {w : World} {v1 : Value} (hF : F_spec_l01From n a0_code = some r) (ha2 : slRep (cInt .u8) w (Iv 0 w.heap.size) a0_code v1) :
    Calls Tryd.prog 57 [v1].toArray w (Ret fun u w2 => ∃ b0, u = .pointer (some ⟨b0, 0, none⟩) ∧ Box w2 b0 [v1, .int .i64 r.at_, .int .i64 r.seed_] 127 ∧ w.heap.size ≤ b0 ∧ Ext w w2) := by
  refine calls_of Tryd.func57 rfl Tryd.ntmps57 ?_
  have he0 : Ext w w := Ext.refl w
  unfold F_spec_l01From at hF
  refine WC.seq ?_
  refine WC.region ?_
  refine TL.yld rfl rfl (yld_assign rfl rfl) ?_
  refine TL.done ?_
  refine NX.seq ?_
  refine WC.seq ?_
  refine WC.region ?_
  refine TL.yld rfl rfl (yld_move rfl rfl) ?_
  refine TL.yld rfl rfl (yld_build (uss := [(0, [v1]), (2, [.int .i64 12345])]) (out := [v1, .int .i64 0, .int .i64 12345]) rfl rfl zn_127 pl_127 (pt_cons (slRep.cl (slRep.old ha2 he0 (Nat.le_refl _))) (pt_cons rfl rfl)) rfl) ?_
  refine TL.eff rfl rfl (eff_box rfl rfl) ?_
  rintro _ w4 ⟨b3, rfl, hn5⟩
  obtain ⟨hn5e, hn5s, hn5x, hb6⟩ := hn5
  have hb6 : Box w4 b3 [v1, .int .i64 0, .int .i64 12345] 127 := hb6
  have he8 : Ext w w4 := Ext.trans he0 hn5x
  have hz9 := (hn5x).size
  have hlo7 : w.heap.size ≤ b3 := by rw [hn5e]; exact (he0).size
  refine TL.yld rfl rfl (yld_assign rfl rfl) ?_
  refine TL.done ?_
  refine NX.seq ?_
  refine WC.seq ?_
  refine WC.seq ?_
  refine WC.region ?_
  refine TL.yld rfl rfl (yld_assign rfl rfl) ?_
  refine TL.done ?_
  refine NX.seq ?_
  refine WC.block ?_
  refine WC.loop (fun m16 a wl => ∃ (i12 : Int) (i14 : Int) (i15 : Int), Kn 34 [(0, v1), (3, .pointer (some ⟨b3, 0, none⟩)), (4, .int .i64 i12)] a ∧ Ext w wl ∧ w4.heap.size ≤ wl.heap.size ∧ Box wl b3 [v1, .int .i64 i14, .int .i64 i15] 127 ∧ F_spec_l01From_L1 a0_code (fun i12 i14 i15 => (some ((S_l01Source.mk a0_code i14 i15)))) m16 i12 i14 i15 = some r) n ?_ ?_
  · intro a hK; exact ⟨0, 0, 12345, hK.weaken ⟨rfl, rfl, rfl, trivial⟩, he8, Nat.le_refl _, hb6, hF⟩
  · rintro m16 a w10 ⟨i12, i14, i15, hK, he11, hz17, hb13, hF⟩
    revert hK; revert a; refine (?_ : WC _ _ _ _ _ _)
    cases m16 with
    | zero => rw [F_spec_l01From_L1_z] at hF; cases hF
    | succ m16 =>
      rw [F_spec_l01From_L1_s] at hF
      refine WC.seq ?_
      refine WC.seq ?_
      refine WC.region ?_
      refine TL.yld rfl rfl (yld_move rfl rfl) ?_
      refine TL.yld rfl rfl (yld_move rfl rfl) ?_
      refine TL.yld rfl rfl (ye_len (c := (cInt .u8)) rfl Tryd.underlying34 rfl (slRep.old ha2 he11 (Nat.le_refl _))) ?_
      refine TL.yld rfl rfl (yld_lss rfl rfl rfl) ?_
      refine TL.yld rfl rfl (yld_move rfl rfl) ?_
      refine TL.cut 3 [(0, v1), (3, .pointer (some ⟨b3, 0, none⟩)), (4, .int .i64 i12), (15, .bool (((decide (i12 < (a0_code.length : Int))) && (decide (i12 < 64)))))] (fun w' => Ext w10 w') ?_ ?_
      · rcases Bool.eq_false_or_eq_true (decide (i12 < (a0_code.length : Int))) with hg18 | hg18
        ·
          refine TL.gy (j := 4) (t := 12) rfl rfl rfl hg18 rfl (yld_move rfl rfl) ?_
          refine TL.gy (j := 4) (t := 12) rfl rfl rfl hg18 rfl (yld_lss rfl rfl rfl) ?_
          refine TL.yld rfl rfl (yld_and_t rfl rfl hg18 rfl) ?_
          exact TL.nil fun a h => ⟨h.weaken ⟨rfl, rfl, rfl, rfl, trivial⟩, Ext.refl _⟩
        ·
          refine TL.gnu (j := 4) (t := 12) rfl rfl rfl hg18 rfl ?_
          refine TL.gnu (j := 4) (t := 12) rfl rfl rfl hg18 rfl ?_
          refine TL.yld rfl rfl (yld_and_f (b2 := decide (i12 < 64)) rfl rfl hg18 rfl) ?_
          exact TL.nil fun a h => ⟨h.weaken ⟨rfl, rfl, rfl, rfl, trivial⟩, Ext.refl _⟩
      intro w19 hx20
      have he21 : Ext w w19 := Ext.trans he11 hx20
      have hb13 := Box.ext hb13 hx20
      have hz22 := (hx20).size
      refine TL.done ?_
      refine NX.seq ?_
      refine WC.cond rfl ?_ ?_
      · intro hc23
        replace hF := bif_t hc23 hF
        refine WC.skip' ?_
        refine NX.seq ?_
        refine WC.seq ?_
        refine WC.block ?_
        obtain ⟨x24, hy25, hF⟩ := bsome hF
        refine WC.held 13 Tryd.hm fun w37 hx38 => ?_
        have he39 : Ext w w37 := Ext.trans he21 hx38
        have hb13 := Box.ext hb13 hx38
        have hz40 := (hx38).size
        refine HL.yld 0 (by kernel_rfl) rfl (by kernel_rfl) rfl rfl (yld_move rfl rfl) ?_
        refine HL.yld 1 (by kernel_rfl) rfl (by kernel_rfl) rfl rfl (yld_move rfl rfl) ?_
        refine HL.yld 2 (by kernel_rfl) rfl (by kernel_rfl) rfl rfl (yld_nilCheck rfl rfl) ?_
        refine HL.yld 3 (by kernel_rfl) rfl (by kernel_rfl) rfl rfl (yld_fieldAddr rfl fo_127_2 rfl) ?_
        refine HL.yld 4 (by kernel_rfl) rfl (by kernel_rfl) rfl rfl (yld_load1 2 rfl ag_2 rfl (Box.cells hb13) rfl rfl) ?_
        refine HL.yld 5 (by kernel_rfl) rfl (by kernel_rfl) rfl rfl (yld_mul rfl rfl rfl) ?_
        refine HL.yld 6 (by kernel_rfl) rfl (by kernel_rfl) rfl rfl (yld_move rfl rfl) ?_
        refine HL.yld 7 (by kernel_rfl) rfl (by kernel_rfl) rfl rfl (yld_move rfl rfl) ?_
        refine HL.ye 8 (by kernel_rfl) rfl (by kernel_rfl) rfl rfl (ye_index (c := (cInt .u8)) rfl Tryd.underlying34 cn_5 rfl rfl (slRep.old ha2 he39 (Nat.le_refl _)) hy25) ?_
        rintro _ ⟨b41, o42, us43, rfl, hib46, hr44, hcl45⟩
        have hib46 : 0 ≤ b41 ∧ b41 < w.heap.size := ⟨hib46.1, by have := hib46.2; omega⟩
        obtain rfl := hr44
        refine HL.yld 9 (by kernel_rfl) rfl (by kernel_rfl) rfl rfl (yld_load1 0 rfl ag_5 rfl hcl45 rfl rfl) ?_
        refine HL.yld 10 (by kernel_rfl) rfl (by kernel_rfl) rfl rfl (yld_conv rfl Tryd.underlying5 Tryd.underlying2 rfl) ?_
        refine HL.yld 11 (by kernel_rfl) rfl (by kernel_rfl) rfl rfl (yld_add rfl rfl rfl) ?_
        refine HL.yld 12 (by kernel_rfl) rfl (by kernel_rfl) rfl rfl (yld_rem rfl rfl rfl (by decide)) ?_
        refine HL.tail rfl (by kernel_rfl) rfl ?_
        refine TL.yld rfl rfl (yld_nilCheck rfl rfl) ?_
        refine TL.yld rfl rfl (yld_fieldAddr rfl fo_127_2 rfl) ?_
        refine TL.eff rfl rfl (eff_store rfl rfl rfl hb13 cn_2 rfl rfl) ?_
        rintro _ w47 ⟨hu48, hb49⟩
        have he50 : Ext w w47 := Below.trans he39 (Upd.below hu48 (by omega))
        have hz51 := (hu48).size
        have hb13 : Box w47 b3 [v1, .int .i64 i14, .int .i64 (Int.tmod (IntKind.wrap IntKind.i64 ((IntKind.wrap IntKind.i64 (i15 * 31)) + (IntKind.wrap IntKind.i64 x24))) 2147483647)] 127 := hb49
        refine TL.noPan (l := []) ?_
        refine NX.blk_n ?_
        refine NX.seq ?_
        refine WC.region ?_
        refine TL.yld rfl rfl (yld_move rfl rfl) ?_
        refine TL.yld rfl rfl (yld_add rfl rfl rfl) ?_
        refine TL.yld rfl rfl (yld_assign rfl rfl) ?_
        refine TL.done ?_
        refine NX.then_n ?_
        intro a hK; exact ⟨m16, Nat.lt_succ_self m16, (IntKind.wrap IntKind.i64 (i12 + 1)), i14, (Int.tmod (IntKind.wrap IntKind.i64 ((IntKind.wrap IntKind.i64 (i15 * 31)) + (IntKind.wrap IntKind.i64 x24))) 2147483647), hK.weaken ⟨rfl, rfl, rfl, trivial⟩, he50, (by omega), hb13, hF⟩
      · intro hc52
        replace hF := bif_f hc52 hF
        refine WC.exit' ?_
        refine NX.then_e ?_
        refine NX.then_e ?_
        refine NX.blk_hit ?_
        refine NX.seq ?_
        refine WC.seq ?_
        refine WC.region ?_
        refine TL.yld rfl rfl (yld_move rfl rfl) ?_
        refine TL.yld rfl rfl (yld_assign rfl rfl) ?_
        refine TL.done ?_
        refine NX.seq ?_
        refine WC.ret' ?_
        obtain rfl := Option.some.inj hF
        exact NX.end (rs := [.tmp 2]) (vs := [.pointer (some ⟨b3, 0, none⟩)]) rfl ⟨rfl, trivial⟩ ⟨_, rfl, _, rfl, hb13, (by omega), he21⟩

-- loop.example/g00861/spec.l01Next
def F_spec_l01Next (n : Nat) (a0_s : S_l01Source) (a1_n : Int) : Option (Int × S_l01Source) := (bif decide (a1_n ≤ 1) then (some (0, a0_s)) else (bif decide (a0_s.at_ < (a0_s.code_.length : Int)) then (Option.bind (getI a0_s.code_ a0_s.at_) fun x15 => (bif decide (a1_n ≤ 256) then (bif (a1_n == 0) then none else (some (Int.tmod (IntKind.wrap IntKind.i64 x15) a1_n, (S_l01Source.mk a0_s.code_ (IntKind.wrap IntKind.i64 (a0_s.at_ + 1)) a0_s.seed_)))) else (bif (a1_n == 0) then none else (some (Int.tmod (Int.tmod (IntKind.wrap IntKind.i64 ((IntKind.wrap IntKind.i64 ((IntKind.wrap IntKind.i64 (a0_s.seed_ * 48271)) + (IntKind.wrap IntKind.i64 x15))) + 1)) 2147483647) a1_n, (S_l01Source.mk a0_s.code_ (IntKind.wrap IntKind.i64 (a0_s.at_ + 1)) (Int.tmod (IntKind.wrap IntKind.i64 ((IntKind.wrap IntKind.i64 ((IntKind.wrap IntKind.i64 (a0_s.seed_ * 48271)) + (IntKind.wrap IntKind.i64 x15))) + 1)) 2147483647))))))) else (bif (a1_n == 0) then none else (some (Int.tmod (IntKind.wrap IntKind.i64 (Int.tdiv (Int.tmod (IntKind.wrap IntKind.i64 ((IntKind.wrap IntKind.i64 (a0_s.seed_ * 48271)) + 11)) 2147483647) 7)) a1_n, (S_l01Source.mk a0_s.code_ a0_s.at_ (Int.tmod (IntKind.wrap IntKind.i64 ((IntKind.wrap IntKind.i64 (a0_s.seed_ * 48271)) + 11)) 2147483647)))))))
set_option maxHeartbeats 40000000 in
theorem W_spec_l01Next {n : Nat} {a0_s : S_l01Source} {a1_n : Int} {r : Int × S_l01Source} {w : World} {v1 : Value} {lo3 hi4 : Nat} {b0_ : Nat} (hF : F_spec_l01Next n a0_s a1_n = some r) (hb5 : Box w b0_ [v1, .int .i64 a0_s.at_, .int .i64 a0_s.seed_] 127) (ha2 : slRep (cInt .u8) w (Iv lo3 hi4) a0_s.code_ v1) (hh6 : hi4 ≤ w.heap.size) (hh7 : b0_ < lo3 ∨ hi4 ≤ b0_) :
    Calls Tryd.prog 71 [.pointer (some ⟨b0_, 0, none⟩), .int .i64 a1_n].toArray w (Ret fun u w2 => u = .int .i64 r.1 ∧ Box w2 b0_ [v1, .int .i64 r.2.at_, .int .i64 r.2.seed_] 127 ∧ But (pB b0_) w w2) := by
  refine calls_of Tryd.func71 rfl Tryd.ntmps71 ?_
  have he0 : But (pB b0_) w w := But.refl _ w
  have := Box.lt hb5
  unfold F_spec_l01Next at hF
  refine WC.seq ?_
  refine WC.region ?_
  refine TL.yld rfl rfl (yld_assign rfl rfl) ?_
  refine TL.done ?_
  refine NX.seq ?_
  refine WC.seq ?_
  refine WC.seq ?_
  refine WC.region ?_
  refine TL.yld rfl rfl (yld_move rfl rfl) ?_
  refine TL.yld rfl rfl (yld_leq rfl rfl rfl) ?_
  refine TL.done ?_
  refine NX.seq ?_
  refine WC.cond rfl ?_ ?_
  · intro hc8
    replace hF := bif_t hc8 hF
    refine WC.seq ?_
    refine WC.region ?_
    refine TL.yld rfl rfl (yld_assign rfl rfl) ?_
    refine TL.done ?_
    refine NX.seq ?_
    refine WC.ret' ?_
    refine NX.then_r ?_
    obtain rfl := Option.some.inj hF
    exact NX.end (rs := [.tmp 4]) (vs := [.int .i64 0]) rfl ⟨rfl, trivial⟩ ⟨_, rfl, rfl, hb5, he0⟩
  · intro hc9
    replace hF := bif_f hc9 hF
    refine WC.skip' ?_
    refine NX.seq ?_
    refine WC.seq ?_
    refine WC.seq ?_
    refine WC.quiet Tryd.hm (by kernel_rfl) ?_
    refine QL.yld rfl rfl (Yld.qui (yld_move rfl rfl)) ?_
    refine QL.yld rfl rfl (Yld.qui (yld_nilCheck rfl rfl)) ?_
    refine QL.yld rfl rfl (Yld.qui (yld_fieldAddr rfl fo_127_1 rfl)) ?_
    refine QL.yld rfl rfl (Yld.qui (yld_load1 1 rfl ag_3 rfl (Box.cells hb5) rfl rfl)) ?_
    refine QL.yld rfl rfl (Yld.qui (yld_move rfl rfl)) ?_
    refine QL.yld rfl rfl (Yld.qui (yld_nilCheck rfl rfl)) ?_
    refine QL.yld rfl rfl (Yld.qui (yld_fieldAddr rfl fo_127_0 rfl)) ?_
    refine QL.yld rfl rfl (Yld.qui (yld_load1 0 rfl ag_34 rfl (Box.cells hb5) rfl rfl)) ?_
    refine QL.yld rfl rfl (Yld.qui (ye_len (c := (cInt .u8)) rfl Tryd.underlying34 rfl ha2)) ?_
    refine QL.yld rfl rfl (Yld.qui (yld_lss rfl rfl rfl)) ?_
    refine QL.done fun w10 hx11 => ?_
    have he12 : But (pB b0_) w w10 := But.ext he0 hx11
    have hb5 := Box.ext hb5 hx11
    have ha2 := slRep.old ha2 hx11 (by omega)
    have hz13 := (hx11).size
    refine NX.seq ?_
    refine WC.cond rfl ?_ ?_
    · intro hc14
      replace hF := bif_t hc14 hF
      refine WC.seq ?_
      refine WC.quiet Tryd.hm (by kernel_rfl) ?_
      refine QL.yld rfl rfl (Yld.qui (yld_move rfl rfl)) ?_
      refine QL.yld rfl rfl (Yld.qui (yld_nilCheck rfl rfl)) ?_
      refine QL.yld rfl rfl (Yld.qui (yld_fieldAddr rfl fo_127_0 rfl)) ?_
      refine QL.yld rfl rfl (Yld.qui (yld_load1 0 rfl ag_34 rfl (Box.cells hb5) rfl rfl)) ?_
      refine QL.yld rfl rfl (Yld.qui (yld_move rfl rfl)) ?_
      refine QL.yld rfl rfl (Yld.qui (yld_nilCheck rfl rfl)) ?_
      refine QL.yld rfl rfl (Yld.qui (yld_fieldAddr rfl fo_127_1 rfl)) ?_
      refine QL.yld rfl rfl (Yld.qui (yld_load1 1 rfl ag_3 rfl (Box.cells hb5) rfl rfl)) ?_
      obtain ⟨x15, hy16, hF⟩ := bsome hF
      refine QL.ye rfl rfl (ye_index (c := (cInt .u8)) rfl Tryd.underlying34 cn_5 rfl rfl ha2 hy16) ?_
      rintro _ ⟨b17, o18, us19, rfl, hib22, hr20, hcl21⟩
      have hib22 : lo3 ≤ b17 ∧ b17 < hi4 := ⟨hib22.1, by have := hib22.2; omega⟩
      obtain rfl := hr20
      refine QL.yld rfl rfl (Yld.qui (yld_load1 0 rfl ag_5 rfl hcl21 rfl rfl)) ?_
      refine QL.yld rfl rfl (Yld.qui (yld_conv rfl Tryd.underlying5 Tryd.underlying2 rfl)) ?_
      refine QL.yld rfl rfl (Yld.qui (yld_assign rfl rfl)) ?_
      refine QL.done fun w23 hx24 => ?_
      have he25 : But (pB b0_) w w23 := But.ext he12 hx24
      have hb5 := Box.ext hb5 hx24
      have ha2 := slRep.old ha2 hx24 (by omega)
      have hz26 := (hx24).size
      refine NX.seq ?_
      refine WC.seq ?_
      refine WC.region ?_
      refine TL.yld rfl rfl (yld_move rfl rfl) ?_
      refine TL.yld rfl rfl (yld_nilCheck rfl rfl) ?_
      refine TL.yld rfl rfl (yld_fieldAddr rfl fo_127_1 rfl) ?_
      refine TL.yld rfl rfl (yld_load1 1 rfl ag_3 rfl (Box.cells hb5) rfl rfl) ?_
      refine TL.yld rfl rfl (yld_add rfl rfl rfl) ?_
      refine TL.yld rfl rfl (yld_nilCheck rfl rfl) ?_
      refine TL.yld rfl rfl (yld_fieldAddr rfl fo_127_1 rfl) ?_
      refine TL.eff rfl rfl (eff_store rfl rfl rfl hb5 cn_3 rfl rfl) ?_
      rintro _ w27 ⟨hu28, hb29⟩
      have he30 : But (pB b0_) w w27 := But.upd he25 hu28 (Or.inl rfl)
      have ha2 := slRep.upd ha2 hu28 (by omega)
      have hz31 := (hu28).size
      have hb5 : Box w27 b0_ [v1, .int .i64 (IntKind.wrap IntKind.i64 (a0_s.at_ + 1)), .int .i64 a0_s.seed_] 127 := hb29
      refine TL.done ?_
      refine NX.seq ?_
      refine WC.seq ?_
      refine WC.seq ?_
      refine WC.region ?_
      refine TL.yld rfl rfl (yld_move rfl rfl) ?_
      refine TL.yld rfl rfl (yld_leq rfl rfl rfl) ?_
      refine TL.done ?_
      refine NX.seq ?_
      refine WC.cond rfl ?_ ?_
      · intro hc32
        replace hF := bif_t hc32 hF
        refine WC.seq ?_
        refine WC.region ?_
        refine TL.yld rfl rfl (yld_move rfl rfl) ?_
        refine TL.yld rfl rfl (yld_move rfl rfl) ?_
        obtain ⟨hn33, hF⟩ := nzero hF
        refine TL.yld rfl rfl (yld_rem rfl rfl rfl hn33) ?_
        refine TL.yld rfl rfl (yld_assign rfl rfl) ?_
        refine TL.done ?_
        refine NX.seq ?_
        refine WC.ret' ?_
        refine NX.then_r ?_
        refine NX.then_r ?_
        obtain rfl := Option.some.inj hF
        exact NX.end (rs := [.tmp 4]) (vs := [.int .i64 (Int.tmod (IntKind.wrap IntKind.i64 x15) a1_n)]) rfl ⟨rfl, trivial⟩ ⟨_, rfl, rfl, hb5, he30⟩
      · intro hc34
        replace hF := bif_f hc34 hF
        refine WC.skip' ?_
        refine NX.seq ?_
        refine WC.seq ?_
        refine WC.region ?_
        refine TL.yld rfl rfl (yld_move rfl rfl) ?_
        refine TL.yld rfl rfl (yld_move rfl rfl) ?_
        refine TL.yld rfl rfl (yld_nilCheck rfl rfl) ?_
        refine TL.yld rfl rfl (yld_fieldAddr rfl fo_127_2 rfl) ?_
        refine TL.yld rfl rfl (yld_load1 2 rfl ag_2 rfl (Box.cells hb5) rfl rfl) ?_
        refine TL.yld rfl rfl (yld_mul rfl rfl rfl) ?_
        refine TL.yld rfl rfl (yld_move rfl rfl) ?_
        refine TL.yld rfl rfl (yld_add rfl rfl rfl) ?_
        refine TL.yld rfl rfl (yld_add rfl rfl rfl) ?_
        refine TL.yld rfl rfl (yld_rem rfl rfl rfl (by decide)) ?_
        refine TL.yld rfl rfl (yld_nilCheck rfl rfl) ?_
        refine TL.yld rfl rfl (yld_fieldAddr rfl fo_127_2 rfl) ?_
        refine TL.eff rfl rfl (eff_store rfl rfl rfl hb5 cn_2 rfl rfl) ?_
        rintro _ w35 ⟨hu36, hb37⟩
        have he38 : But (pB b0_) w w35 := But.upd he30 hu36 (Or.inl rfl)
        have ha2 := slRep.upd ha2 hu36 (by omega)
        have hz39 := (hu36).size
        have hb5 : Box w35 b0_ [v1, .int .i64 (IntKind.wrap IntKind.i64 (a0_s.at_ + 1)), .int .i64 (Int.tmod (IntKind.wrap IntKind.i64 ((IntKind.wrap IntKind.i64 ((IntKind.wrap IntKind.i64 (a0_s.seed_ * 48271)) + (IntKind.wrap IntKind.i64 x15))) + 1)) 2147483647)] 127 := hb37
        refine TL.done ?_
        refine NX.seq ?_
        refine WC.seq ?_
        refine WC.region ?_
        refine TL.yld rfl rfl (yld_move rfl rfl) ?_
        refine TL.yld rfl rfl (yld_nilCheck rfl rfl) ?_
        refine TL.yld rfl rfl (yld_fieldAddr rfl fo_127_2 rfl) ?_
        refine TL.yld rfl rfl (yld_load1 2 rfl ag_2 rfl (Box.cells hb5) rfl rfl) ?_
        refine TL.yld rfl rfl (yld_move rfl rfl) ?_
        obtain ⟨hn40, hF⟩ := nzero hF
        refine TL.yld rfl rfl (yld_rem rfl rfl rfl hn40) ?_
        refine TL.yld rfl rfl (yld_assign rfl rfl) ?_
        refine TL.done ?_
        refine NX.seq ?_
        refine WC.ret' ?_
        refine NX.then_r ?_
        obtain rfl := Option.some.inj hF
        exact NX.end (rs := [.tmp 4]) (vs := [.int .i64 (Int.tmod (Int.tmod (IntKind.wrap IntKind.i64 ((IntKind.wrap IntKind.i64 ((IntKind.wrap IntKind.i64 (a0_s.seed_ * 48271)) + (IntKind.wrap IntKind.i64 x15))) + 1)) 2147483647) a1_n)]) rfl ⟨rfl, trivial⟩ ⟨_, rfl, rfl, hb5, he38⟩
    · intro hc41
      replace hF := bif_f hc41 hF
      refine WC.skip' ?_
      refine NX.seq ?_
      refine WC.seq ?_
      refine WC.region ?_
      refine TL.yld rfl rfl (yld_move rfl rfl) ?_
      refine TL.yld rfl rfl (yld_move rfl rfl) ?_
      refine TL.yld rfl rfl (yld_nilCheck rfl rfl) ?_
      refine TL.yld rfl rfl (yld_fieldAddr rfl fo_127_2 rfl) ?_
      refine TL.yld rfl rfl (yld_load1 2 rfl ag_2 rfl (Box.cells hb5) rfl rfl) ?_
      refine TL.yld rfl rfl (yld_mul rfl rfl rfl) ?_
      refine TL.yld rfl rfl (yld_add rfl rfl rfl) ?_
      refine TL.yld rfl rfl (yld_rem rfl rfl rfl (by decide)) ?_
      refine TL.yld rfl rfl (yld_nilCheck rfl rfl) ?_
      refine TL.yld rfl rfl (yld_fieldAddr rfl fo_127_2 rfl) ?_
      refine TL.eff rfl rfl (eff_store rfl rfl rfl hb5 cn_2 rfl rfl) ?_
      rintro _ w42 ⟨hu43, hb44⟩
      have he45 : But (pB b0_) w w42 := But.upd he12 hu43 (Or.inl rfl)
      have ha2 := slRep.upd ha2 hu43 (by omega)
      have hz46 := (hu43).size
      have hb5 : Box w42 b0_ [v1, .int .i64 a0_s.at_, .int .i64 (Int.tmod (IntKind.wrap IntKind.i64 ((IntKind.wrap IntKind.i64 (a0_s.seed_ * 48271)) + 11)) 2147483647)] 127 := hb44
      refine TL.done ?_
      refine NX.seq ?_
      refine WC.seq ?_
      refine WC.region ?_
      refine TL.yld rfl rfl (yld_move rfl rfl) ?_
      refine TL.yld rfl rfl (yld_nilCheck rfl rfl) ?_
      refine TL.yld rfl rfl (yld_fieldAddr rfl fo_127_2 rfl) ?_
      refine TL.yld rfl rfl (yld_load1 2 rfl ag_2 rfl (Box.cells hb5) rfl rfl) ?_
      refine TL.yld rfl rfl (yld_quo rfl rfl rfl (by decide)) ?_
      refine TL.yld rfl rfl (yld_move rfl rfl) ?_
      obtain ⟨hn47, hF⟩ := nzero hF
      refine TL.yld rfl rfl (yld_rem rfl rfl rfl hn47) ?_
      refine TL.yld rfl rfl (yld_assign rfl rfl) ?_
      refine TL.done ?_
      refine NX.seq ?_
      refine WC.ret' ?_
      obtain rfl := Option.some.inj hF
      exact NX.end (rs := [.tmp 4]) (vs := [.int .i64 (Int.tmod (IntKind.wrap IntKind.i64 (Int.tdiv (Int.tmod (IntKind.wrap IntKind.i64 ((IntKind.wrap IntKind.i64 (a0_s.seed_ * 48271)) + 11)) 2147483647) 7)) a1_n)]) rfl ⟨rfl, trivial⟩ ⟨_, rfl, rfl, hb5, he45⟩

-- loop.example/g00861/spec.l01Number
def F_spec_l01Number : Nat → Int → Option ByteArray
  | 0 => fun _ => none
  | n + 1 => fun a0_n => (bif decide (a0_n < 0) then (Option.bind (F_spec_l01Number n (IntKind.wrap IntKind.i64 (0 - a0_n))) fun r2 => (Option.bind (catS ((ByteArray.mk #[45])) r2) fun t8 => (some t8))) else (bif decide (a0_n < 10) then (some ((strB ([IntKind.wrap IntKind.u8 (IntKind.wrap IntKind.i64 (48 + a0_n))])))) else (Option.bind (F_spec_l01Number n (IntKind.wrap IntKind.i64 (Int.tdiv a0_n 10))) fun r26 => (Option.bind (catS r26 ((strB ([IntKind.wrap IntKind.u8 (IntKind.wrap IntKind.i64 (48 + (Int.tmod a0_n 10)))])))) fun t45 => (some t45)))))
theorem F_spec_l01Number_z (a0_n : Int) : F_spec_l01Number 0 a0_n = none := rfl
theorem F_spec_l01Number_s (n : Nat) (a0_n : Int) : F_spec_l01Number (n + 1) a0_n = (bif decide (a0_n < 0) then (Option.bind (F_spec_l01Number n (IntKind.wrap IntKind.i64 (0 - a0_n))) fun r2 => (Option.bind (catS ((ByteArray.mk #[45])) r2) fun t8 => (some t8))) else (bif decide (a0_n < 10) then (some ((strB ([IntKind.wrap IntKind.u8 (IntKind.wrap IntKind.i64 (48 + a0_n))])))) else (Option.bind (F_spec_l01Number n (IntKind.wrap IntKind.i64 (Int.tdiv a0_n 10))) fun r26 => (Option.bind (catS r26 ((strB ([IntKind.wrap IntKind.u8 (IntKind.wrap IntKind.i64 (48 + (Int.tmod a0_n 10)))])))) fun t45 => (some t45))))) := rfl
set_option maxHeartbeats 40000000 in
theorem W_spec_l01Number {n : Nat} {a0_n : Int} {r : ByteArray} {w : World} (hF : F_spec_l01Number n a0_n = some r) :
    Calls Tryd.prog 133 [.int .i64 a0_n].toArray w (Ret fun u w2 => u = .string r ∧ Ext w w2) := by
  cases n with
  | zero => rw [F_spec_l01Number_z] at hF; cases hF
  | succ n =>
    refine calls_of Tryd.func133 rfl Tryd.ntmps133 ?_
    have he0 : Ext w w := Ext.refl w
    rw [F_spec_l01Number_s] at hF
    refine WC.seq ?_
    refine WC.region ?_
    refine TL.yld rfl rfl (yld_assign rfl rfl) ?_
    refine TL.done ?_
    refine NX.seq ?_
    refine WC.seq ?_
    refine WC.seq ?_
    refine WC.region ?_
    refine TL.yld rfl rfl (yld_move rfl rfl) ?_
    refine TL.yld rfl rfl (yld_lss rfl rfl rfl) ?_
    refine TL.done ?_
    refine NX.seq ?_
    refine WC.cond rfl ?_ ?_
    · intro hc1
      replace hF := bif_t hc1 hF
      refine WC.seq ?_
      refine WC.region ?_
      refine TL.yld rfl rfl (yld_move rfl rfl) ?_
      refine TL.yld rfl rfl (yld_neg rfl rfl) ?_
      obtain ⟨r2, hr3, hF⟩ := bsome hF
      refine TL.eff rfl rfl (eff_call rfl gf_133 rfl (W_spec_l01Number hr3)) ?_
      rintro _ w4 ⟨rfl, hx5⟩
      have he6 : Ext w w4 := Ext.trans he0 hx5
      have hz7 := (hx5).size
      obtain ⟨t8, ht9, hF⟩ := bsome hF
      refine TL.yld rfl rfl (yld_cat rfl rfl rfl ht9) ?_
      refine TL.yld rfl rfl (yld_assign rfl rfl) ?_
      refine TL.done ?_
      refine NX.seq ?_
      refine WC.ret' ?_
      refine NX.then_r ?_
      obtain rfl := Option.some.inj hF
      exact NX.end (rs := [.tmp 2]) (vs := [.string t8]) rfl ⟨rfl, trivial⟩ ⟨_, rfl, rfl, he6⟩
    · intro hc10
      replace hF := bif_f hc10 hF
      refine WC.skip' ?_
      refine NX.seq ?_
      refine WC.seq ?_
      refine WC.seq ?_
      refine WC.region ?_
      refine TL.yld rfl rfl (yld_move rfl rfl) ?_
      refine TL.yld rfl rfl (yld_lss rfl rfl rfl) ?_
      refine TL.done ?_
      refine NX.seq ?_
      refine WC.cond rfl ?_ ?_
      · intro hc11
        replace hF := bif_t hc11 hF
        refine WC.seq ?_
        refine WC.region ?_
        refine TL.yld rfl rfl (yld_move rfl rfl) ?_
        refine TL.yld rfl rfl (yld_add rfl rfl rfl) ?_
        refine TL.yld rfl rfl (yld_conv rfl Tryd.underlying2 Tryd.underlying5 rfl) ?_
        refine TL.eff rfl rfl (eff_buildSlice (c := (cInt .u8)) (xs := [IntKind.wrap IntKind.u8 (IntKind.wrap IntKind.i64 (48 + a0_n))]) (S := (Iv 0 0)) (uss := [(0, [.int .u8 (IntKind.wrap IntKind.u8 (IntKind.wrap IntKind.i64 (48 + a0_n)))])]) (out := [.int .u8 (IntKind.wrap IntKind.u8 (IntKind.wrap IntKind.i64 (48 + a0_n)))]) rfl Tryd.underlying34 in_5 rfl rfl (fillL_all [[.int .u8 (IntKind.wrap IntKind.u8 (IntKind.wrap IntKind.i64 (48 + a0_n)))]] rfl rfl rfl) rfl rfl rfl rfl (one_rep (uss := [[.int .u8 (IntKind.wrap IntKind.u8 (IntKind.wrap IntKind.i64 (48 + a0_n)))]]) (show reps _ _ _ _ _ from ⟨rfl, trivial⟩) rfl) (fun k h => by have := h.2; omega) rfl) ?_
        rintro v12 w13 ⟨g14, hv15, hg16, hz17, hx18, hs19⟩
        have he20 : Ext w w13 := Ext.trans he0 hx18
        have hz21 := (hx18).size
        have hlo22 : w.heap.size ≤ g14 := by rw [hg16]; exact (he0).size
        have hbd23 := bd_of hv15
        clear hv15
        refine TL.yld rfl rfl (yld_bytes rfl Tryd.underlying34 Tryd.underlying5 Tryd.underlying9 rfl (ownR.slf hs19 (Nat.le_refl _) (Nat.le_refl _))) ?_
        refine TL.yld rfl rfl (yld_assign rfl rfl) ?_
        refine TL.done ?_
        refine NX.seq ?_
        refine WC.ret' ?_
        refine NX.then_r ?_
        obtain rfl := Option.some.inj hF
        exact NX.end (rs := [.tmp 2]) (vs := [.string ((strB ([IntKind.wrap IntKind.u8 (IntKind.wrap IntKind.i64 (48 + a0_n))])))]) rfl ⟨rfl, trivial⟩ ⟨_, rfl, rfl, he20⟩
      · intro hc25
        replace hF := bif_f hc25 hF
        refine WC.skip' ?_
        refine NX.seq ?_
        refine WC.seq ?_
        obtain ⟨r26, hr27, hF⟩ := bsome hF
        obtain ⟨t45, ht46, hF⟩ := bsome hF
        refine WC.join (fun a wl => Kn 26 [(2, .string t45)] a ∧ Ext w wl ∧ w.heap.size ≤ wl.heap.size) ?_ ?_
        ·
          refine WC.held 9 Tryd.hm fun w50 hx51 => ?_
          have he52 : Ext w w50 := Ext.trans he0 hx51
          have hz53 := (hx51).size
          refine HL.yld 0 (by kernel_rfl) rfl (by kernel_rfl) rfl rfl (yld_move rfl rfl) ?_
          refine HL.yld 1 (by kernel_rfl) rfl (by kernel_rfl) rfl rfl (yld_quo rfl rfl rfl (by decide)) ?_
          refine HL.yld 3 (by kernel_rfl) rfl (by kernel_rfl) rfl rfl (yld_move rfl rfl) ?_
          refine HL.yld 4 (by kernel_rfl) rfl (by kernel_rfl) rfl rfl (yld_rem rfl rfl rfl (by decide)) ?_
          refine HL.yld 5 (by kernel_rfl) rfl (by kernel_rfl) rfl rfl (yld_add rfl rfl rfl) ?_
          refine HL.yld 6 (by kernel_rfl) rfl (by kernel_rfl) rfl rfl (yld_conv rfl Tryd.underlying2 Tryd.underlying5 rfl) ?_
          refine HL.many (js := [2, 7]) (by kernel_rfl) rfl (all_two ?_ ?_)
          ·
            refine HB.eff 2 rfl rfl (by kernel_rfl) rfl rfl (eff_call rfl gf_133 rfl (W_spec_l01Number hr27)) ?_
            rintro _ w54 ⟨rfl, hx55⟩
            have hbs56 : Ext w50 w54 := Ext.trans (Ext.refl w50) hx55
            have he57 : Ext w w54 := Ext.trans he52 hx55
            have hz58 := (hx55).size
            refine ⟨hbs56, ?_⟩
            refine HL.eff 7 rfl rfl (by kernel_rfl) rfl rfl (eff_buildSlice (c := (cInt .u8)) (xs := [IntKind.wrap IntKind.u8 (IntKind.wrap IntKind.i64 (48 + (Int.tmod a0_n 10)))]) (S := (Iv 0 0)) (uss := [(0, [.int .u8 (IntKind.wrap IntKind.u8 (IntKind.wrap IntKind.i64 (48 + (Int.tmod a0_n 10))))])]) (out := [.int .u8 (IntKind.wrap IntKind.u8 (IntKind.wrap IntKind.i64 (48 + (Int.tmod a0_n 10))))]) rfl Tryd.underlying34 in_5 rfl rfl (fillL_all [[.int .u8 (IntKind.wrap IntKind.u8 (IntKind.wrap IntKind.i64 (48 + (Int.tmod a0_n 10))))]] rfl rfl rfl) rfl rfl rfl rfl (one_rep (uss := [[.int .u8 (IntKind.wrap IntKind.u8 (IntKind.wrap IntKind.i64 (48 + (Int.tmod a0_n 10))))]]) (show reps _ _ _ _ _ from ⟨rfl, trivial⟩) rfl) (fun k h => by have := h.2; omega) rfl) ?_
            rintro v59 w60 ⟨g61, hv62, hg63, hz64, hx65, hs66⟩
            have hbs67 : Ext w50 w60 := Ext.trans hbs56 hx65
            have he68 : Ext w w60 := Ext.trans he57 hx65
            have hz69 := (hx65).size
            have hlo70 : w.heap.size ≤ g61 := by rw [hg63]; exact (he57).size
            have hbd71 := bd_of hv62
            clear hv62
            refine ⟨hbs67, ?_⟩
            refine HL.shrink ?_
            refine HL.yld 8 (by kernel_rfl) rfl (by kernel_rfl) rfl rfl (yld_bytes rfl Tryd.underlying34 Tryd.underlying5 Tryd.underlying9 rfl (ownR.slf hs66 (Nat.le_refl _) (Nat.le_refl _))) ?_
            refine HL.tail rfl (by kernel_rfl) rfl ?_
            refine TL.yld rfl rfl (yld_cat rfl rfl rfl ht46) ?_
            refine TL.yld rfl rfl (yld_assign rfl rfl) ?_
            refine TL.noPan (l := []) ?_
            exact fun a hK => ⟨rfl, hK.weaken ⟨rfl, trivial⟩, he68, (by omega)⟩
          ·
            refine HB.eff 7 rfl rfl (by kernel_rfl) rfl rfl (eff_buildSlice (c := (cInt .u8)) (xs := [IntKind.wrap IntKind.u8 (IntKind.wrap IntKind.i64 (48 + (Int.tmod a0_n 10)))]) (S := (Iv 0 0)) (uss := [(0, [.int .u8 (IntKind.wrap IntKind.u8 (IntKind.wrap IntKind.i64 (48 + (Int.tmod a0_n 10))))])]) (out := [.int .u8 (IntKind.wrap IntKind.u8 (IntKind.wrap IntKind.i64 (48 + (Int.tmod a0_n 10))))]) rfl Tryd.underlying34 in_5 rfl rfl (fillL_all [[.int .u8 (IntKind.wrap IntKind.u8 (IntKind.wrap IntKind.i64 (48 + (Int.tmod a0_n 10))))]] rfl rfl rfl) rfl rfl rfl rfl (one_rep (uss := [[.int .u8 (IntKind.wrap IntKind.u8 (IntKind.wrap IntKind.i64 (48 + (Int.tmod a0_n 10))))]]) (show reps _ _ _ _ _ from ⟨rfl, trivial⟩) rfl) (fun k h => by have := h.2; omega) rfl) ?_
            rintro v73 w74 ⟨g75, hv76, hg77, hz78, hx79, hs80⟩
            have hbs81 : Ext w50 w74 := Ext.trans (Ext.refl w50) hx79
            have he82 : Ext w w74 := Ext.trans he52 hx79
            have hz83 := (hx79).size
            have hlo84 : w.heap.size ≤ g75 := by rw [hg77]; exact (he52).size
            have hbd85 := bd_of hv76
            clear hv76
            refine ⟨hbs81, ?_⟩
            refine HL.shrink ?_
            refine HL.yld 8 (by kernel_rfl) rfl (by kernel_rfl) rfl rfl (yld_bytes rfl Tryd.underlying34 Tryd.underlying5 Tryd.underlying9 rfl (ownR.slf hs80 (Nat.le_refl _) (Nat.le_refl _))) ?_
            refine HL.eff 2 rfl rfl (by kernel_rfl) rfl rfl (eff_call rfl gf_133 rfl (W_spec_l01Number hr27)) ?_
            rintro _ w87 ⟨rfl, hx88⟩
            have hbs89 : Ext w74 w87 := Ext.trans (Ext.refl w74) hx88
            have he90 : Ext w w87 := Ext.trans he82 hx88
            have hs80 := ownR.ext hs80 hx88
            have hz91 := (hx88).size
            refine ⟨hbs89, ?_⟩
            refine HL.tail rfl (by kernel_rfl) rfl ?_
            refine TL.yld rfl rfl (yld_cat rfl rfl rfl ht46) ?_
            refine TL.yld rfl rfl (yld_assign rfl rfl) ?_
            refine TL.noPan (l := []) ?_
            exact fun a hK => ⟨rfl, hK.weaken ⟨rfl, trivial⟩, he90, (by omega)⟩
        ·
          rintro a w47 ⟨hK, he48, hz49⟩
          revert hK; revert a; refine (?_ : NX _ _ _ _ _)
          refine NX.seq ?_
          refine WC.ret' ?_
          obtain rfl := Option.some.inj hF
          exact NX.end (rs := [.tmp 2]) (vs := [.string t45]) rfl ⟨rfl, trivial⟩ ⟨_, rfl, rfl, he48⟩
termination_by n

-- loop.example/g00861/spec.l14Draw
def F_spec_l14Draw_L2 (n : Nat) (k3 : (List S_Clock) → Option ((List S_Clock) × S_l01Source)) : Nat → (List S_Clock) → Option ((List S_Clock) × S_l01Source)
  | 0 => fun _ => none
  | m + 1 => fun l181 => (bif decide ((l181.length : Int) < 7) then (Option.bind (getI l181 0) fun x189 => (Option.bind (F_spec_l01Number n ((l181.length : Int))) fun r208 => (Option.bind (catS ((ByteArray.mk #[120])) r208) fun t214 => (Option.bind (appN l181 ([(S_Clock.mk t214 x189.Place x189.Period x189.RiseAt x189.FallAt x189.Source x189.Divide x189.Invert x189.EarlyLatency x189.LateLatency x189.Uncertainty)]) 96) fun z234 => (F_spec_l14Draw_L2 n k3 m z234))))) else (k3 l181))
theorem F_spec_l14Draw_L2_z (n : Nat) (k3 : (List S_Clock) → Option ((List S_Clock) × S_l01Source)) (l181 : List S_Clock) : F_spec_l14Draw_L2 n k3 0 l181 = none := rfl
theorem F_spec_l14Draw_L2_s (m : Nat) (n : Nat) (k3 : (List S_Clock) → Option ((List S_Clock) × S_l01Source)) (l181 : List S_Clock) : F_spec_l14Draw_L2 n k3 (m + 1) l181 = (bif decide ((l181.length : Int) < 7) then (Option.bind (getI l181 0) fun x189 => (Option.bind (F_spec_l01Number n ((l181.length : Int))) fun r208 => (Option.bind (catS ((ByteArray.mk #[120])) r208) fun t214 => (Option.bind (appN l181 ([(S_Clock.mk t214 x189.Place x189.Period x189.RiseAt x189.FallAt x189.Source x189.Divide x189.Invert x189.EarlyLatency x189.LateLatency x189.Uncertainty)]) 96) fun z234 => (F_spec_l14Draw_L2 n k3 m z234))))) else (k3 l181)) := rfl

def F_spec_l14Draw_L1 (n : Nat) (a0_s : S_l01Source) (k0 : (List S_Clock) → Int → Int → Int → Option ((List S_Clock) × S_l01Source)) : Nat → (List S_Clock) → Int → Int → Int → Option ((List S_Clock) × S_l01Source)
  | 0 => fun _ _ _ _ => none
  | m + 1 => fun l31 i35 i37 i38 => (bif decide (i35 > 0) then (Option.bind (F_spec_l01Next n ((S_l01Source.mk a0_s.code_ i37 i38)) 30) fun r42 => (Option.bind (F_spec_l01Number n ((l31.length : Int))) fun r50 => (Option.bind (catS ((ByteArray.mk #[99])) r50) fun t56 => (Option.bind (F_spec_l01Next n ((S_l01Source.mk a0_s.code_ r42.2.at_ r42.2.seed_)) 20) fun r58 => (Option.bind (F_spec_l01Next n ((S_l01Source.mk a0_s.code_ r58.2.at_ r58.2.seed_)) 20) fun r66 => (Option.bind (F_spec_l01Next n ((S_l01Source.mk a0_s.code_ r66.2.at_ r66.2.seed_)) 8) fun r74 => (Option.bind (bif (((l31.length : Int)) == 0) then (some (true, r74.2.at_, r74.2.seed_)) else (Option.bind (F_spec_l01Next n ((S_l01Source.mk a0_s.code_ r74.2.at_ r74.2.seed_)) 3) fun r94 => (some ((r94.1 == 0), r94.2.at_, r94.2.seed_)))) fun c94 => (bif c94.1 then (Option.bind (F_spec_l01Next n ((S_l01Source.mk a0_s.code_ c94.2.1 c94.2.2)) 7) fun r125 => (Option.bind (getI ([10, 12, 20, 30, 100, 7, 2]) r125.1) fun x134 => (Option.bind (F_spec_l01Next n ((S_l01Source.mk a0_s.code_ r125.2.at_ r125.2.seed_)) x134) fun r146 => (Option.bind (F_spec_l01Next n ((S_l01Source.mk a0_s.code_ r146.2.at_ r146.2.seed_)) (IntKind.wrap IntKind.i64 (x134 - 1))) fun r160 => (bif (x134 == 0) then none else (Option.bind (appN l31 ([(S_Clock.mk t56 r58.1 x134 r146.1 (Int.tmod (IntKind.wrap IntKind.i64 ((IntKind.wrap IntKind.i64 (r146.1 + 1)) + r160.1)) x134) (-1) 1 false r42.1 (IntKind.wrap IntKind.i64 (r42.1 + r66.1)) r74.1)]) 96) fun z205 => (F_spec_l14Draw_L1 n a0_s k0 m z205 (IntKind.wrap IntKind.i64 (i35 - 1)) r160.2.at_ r160.2.seed_))))))) else (Option.bind (F_spec_l01Next n ((S_l01Source.mk a0_s.code_ c94.2.1 c94.2.2)) ((l31.length : Int))) fun r223 => (Option.bind (F_spec_l01Next n ((S_l01Source.mk a0_s.code_ r223.2.at_ r223.2.seed_)) 4) fun r236 => (Option.bind (F_spec_l01Next n ((S_l01Source.mk a0_s.code_ r236.2.at_ r236.2.seed_)) 3) fun r249 => (Option.bind (appN l31 ([(S_Clock.mk t56 r58.1 0 0 0 r223.1 (IntKind.wrap IntKind.i64 (1 + r236.1)) ((r249.1 == 0)) r42.1 (IntKind.wrap IntKind.i64 (r42.1 + r66.1)) r74.1)]) 96) fun z275 => (F_spec_l14Draw_L1 n a0_s k0 m z275 (IntKind.wrap IntKind.i64 (i35 - 1)) r249.2.at_ r249.2.seed_))))))))))))) else (k0 l31 i35 i37 i38))
theorem F_spec_l14Draw_L1_z (n : Nat) (a0_s : S_l01Source) (k0 : (List S_Clock) → Int → Int → Int → Option ((List S_Clock) × S_l01Source)) (l31 : List S_Clock) (i35 : Int) (i37 : Int) (i38 : Int) : F_spec_l14Draw_L1 n a0_s k0 0 l31 i35 i37 i38 = none := rfl
theorem F_spec_l14Draw_L1_s (m : Nat) (n : Nat) (a0_s : S_l01Source) (k0 : (List S_Clock) → Int → Int → Int → Option ((List S_Clock) × S_l01Source)) (l31 : List S_Clock) (i35 : Int) (i37 : Int) (i38 : Int) : F_spec_l14Draw_L1 n a0_s k0 (m + 1) l31 i35 i37 i38 = (bif decide (i35 > 0) then (Option.bind (F_spec_l01Next n ((S_l01Source.mk a0_s.code_ i37 i38)) 30) fun r42 => (Option.bind (F_spec_l01Number n ((l31.length : Int))) fun r50 => (Option.bind (catS ((ByteArray.mk #[99])) r50) fun t56 => (Option.bind (F_spec_l01Next n ((S_l01Source.mk a0_s.code_ r42.2.at_ r42.2.seed_)) 20) fun r58 => (Option.bind (F_spec_l01Next n ((S_l01Source.mk a0_s.code_ r58.2.at_ r58.2.seed_)) 20) fun r66 => (Option.bind (F_spec_l01Next n ((S_l01Source.mk a0_s.code_ r66.2.at_ r66.2.seed_)) 8) fun r74 => (Option.bind (bif (((l31.length : Int)) == 0) then (some (true, r74.2.at_, r74.2.seed_)) else (Option.bind (F_spec_l01Next n ((S_l01Source.mk a0_s.code_ r74.2.at_ r74.2.seed_)) 3) fun r94 => (some ((r94.1 == 0), r94.2.at_, r94.2.seed_)))) fun c94 => (bif c94.1 then (Option.bind (F_spec_l01Next n ((S_l01Source.mk a0_s.code_ c94.2.1 c94.2.2)) 7) fun r125 => (Option.bind (getI ([10, 12, 20, 30, 100, 7, 2]) r125.1) fun x134 => (Option.bind (F_spec_l01Next n ((S_l01Source.mk a0_s.code_ r125.2.at_ r125.2.seed_)) x134) fun r146 => (Option.bind (F_spec_l01Next n ((S_l01Source.mk a0_s.code_ r146.2.at_ r146.2.seed_)) (IntKind.wrap IntKind.i64 (x134 - 1))) fun r160 => (bif (x134 == 0) then none else (Option.bind (appN l31 ([(S_Clock.mk t56 r58.1 x134 r146.1 (Int.tmod (IntKind.wrap IntKind.i64 ((IntKind.wrap IntKind.i64 (r146.1 + 1)) + r160.1)) x134) (-1) 1 false r42.1 (IntKind.wrap IntKind.i64 (r42.1 + r66.1)) r74.1)]) 96) fun z205 => (F_spec_l14Draw_L1 n a0_s k0 m z205 (IntKind.wrap IntKind.i64 (i35 - 1)) r160.2.at_ r160.2.seed_))))))) else (Option.bind (F_spec_l01Next n ((S_l01Source.mk a0_s.code_ c94.2.1 c94.2.2)) ((l31.length : Int))) fun r223 => (Option.bind (F_spec_l01Next n ((S_l01Source.mk a0_s.code_ r223.2.at_ r223.2.seed_)) 4) fun r236 => (Option.bind (F_spec_l01Next n ((S_l01Source.mk a0_s.code_ r236.2.at_ r236.2.seed_)) 3) fun r249 => (Option.bind (appN l31 ([(S_Clock.mk t56 r58.1 0 0 0 r223.1 (IntKind.wrap IntKind.i64 (1 + r236.1)) ((r249.1 == 0)) r42.1 (IntKind.wrap IntKind.i64 (r42.1 + r66.1)) r74.1)]) 96) fun z275 => (F_spec_l14Draw_L1 n a0_s k0 m z275 (IntKind.wrap IntKind.i64 (i35 - 1)) r249.2.at_ r249.2.seed_))))))))))))) else (k0 l31 i35 i37 i38)) := rfl

def F_spec_l14Draw (n : Nat) (a0_s : S_l01Source) : Option ((List S_Clock) × S_l01Source) := (Option.bind (F_spec_l01Next n a0_s 5) fun r21 => (F_spec_l14Draw_L1 n a0_s (fun l31 i35 i37 i38 => (Option.bind (F_spec_l01Next n ((S_l01Source.mk a0_s.code_ i37 i38)) ((l31.length : Int))) fun r41 => (Option.bind (F_spec_l01Next n ((S_l01Source.mk a0_s.code_ r41.2.at_ r41.2.seed_)) 30) fun r49 => (bif (r49.1 == 0) then (Option.bind (F_spec_l01Next n ((S_l01Source.mk a0_s.code_ r49.2.at_ r49.2.seed_)) 2) fun r58 => (Option.bind (getI l31 r41.1) fun x66 => (some ((l31.set (r41.1).toNat ((S_Clock.mk x66.Name x66.Place x66.Period x66.RiseAt x66.FallAt x66.Source (IntKind.wrap IntKind.i64 (9 * r58.1)) x66.Invert x66.EarlyLatency x66.LateLatency x66.Uncertainty))), (S_l01Source.mk a0_s.code_ r58.2.at_ r58.2.seed_))))) else (bif (r49.1 == 1) then (Option.bind (getI l31 r41.1) fun x80 => (Option.bind (getI l31 r41.1) fun x87 => (some ((l31.set (r41.1).toNat ((S_Clock.mk x87.Name x87.Place x87.Period x87.RiseAt x80.RiseAt x87.Source x87.Divide x87.Invert x87.EarlyLatency x87.LateLatency x87.Uncertainty))), (S_l01Source.mk a0_s.code_ r49.2.at_ r49.2.seed_))))) else (bif (r49.1 == 2) then (Option.bind (getI l31 0) fun x101 => (Option.bind (getI l31 r41.1) fun x108 => (some ((l31.set (r41.1).toNat ((S_Clock.mk x101.Name x108.Place x108.Period x108.RiseAt x108.FallAt x108.Source x108.Divide x108.Invert x108.EarlyLatency x108.LateLatency x108.Uncertainty))), (S_l01Source.mk a0_s.code_ r49.2.at_ r49.2.seed_))))) else (bif (r49.1 == 3) then (Option.bind (getI l31 r41.1) fun x122 => (some ((l31.set (r41.1).toNat ((S_Clock.mk x122.Name x122.Place x122.Period x122.RiseAt x122.FallAt r41.1 x122.Divide x122.Invert x122.EarlyLatency x122.LateLatency x122.Uncertainty))), (S_l01Source.mk a0_s.code_ r49.2.at_ r49.2.seed_)))) else (bif (r49.1 == 4) then (Option.bind (getI l31 r41.1) fun x136 => (Option.bind (getI l31 r41.1) fun x143 => (some ((l31.set (r41.1).toNat ((S_Clock.mk x143.Name x143.Place x143.Period x143.RiseAt x143.FallAt x143.Source x143.Divide x143.Invert x143.EarlyLatency (IntKind.wrap IntKind.i64 (x136.EarlyLatency - 1)) x143.Uncertainty))), (S_l01Source.mk a0_s.code_ r49.2.at_ r49.2.seed_))))) else (bif (r49.1 == 5) then (Option.bind (F_spec_l01Next n ((S_l01Source.mk a0_s.code_ r49.2.at_ r49.2.seed_)) 2) fun r157 => (Option.bind (getI l31 0) fun x165 => (some ((l31.set (0 : Int).toNat ((S_Clock.mk x165.Name x165.Place (IntKind.wrap IntKind.i64 (100000 + r157.1)) x165.RiseAt x165.FallAt x165.Source x165.Divide x165.Invert x165.EarlyLatency x165.LateLatency x165.Uncertainty))), (S_l01Source.mk a0_s.code_ r157.2.at_ r157.2.seed_))))) else (bif (r49.1 == 6) then (F_spec_l14Draw_L2 n (fun l181 => (some (l181, (S_l01Source.mk a0_s.code_ r49.2.at_ r49.2.seed_)))) n l31) else (some (l31, (S_l01Source.mk a0_s.code_ r49.2.at_ r49.2.seed_))))))))))))) n (([] : List S_Clock)) (IntKind.wrap IntKind.i64 (1 + r21.1)) r21.2.at_ r21.2.seed_))
set_option maxHeartbeats 40000000 in
theorem W_spec_l14Draw {n : Nat} {a0_s : S_l01Source} {r : (List S_Clock) × S_l01Source} {w : World} {v1 : Value} {lo3 hi4 : Nat} {b0_ : Nat} (hF : F_spec_l14Draw n a0_s = some r) (hb5 : Box w b0_ [v1, .int .i64 a0_s.at_, .int .i64 a0_s.seed_] 127) (ha2 : slRep (cInt .u8) w (Iv lo3 hi4) a0_s.code_ v1) (hh6 : hi4 ≤ w.heap.size) (hh7 : b0_ < lo3 ∨ hi4 ≤ b0_) :
    Calls Tryd.prog 98 [.pointer (some ⟨b0_, 0, none⟩)].toArray w (Ret fun u w2 => ∃ v0_0, u = v0_0 ∧ ownR C_Clock w2 w.heap.size (Iv 0 0) 75 r.1 v0_0 ∧ Box w2 b0_ [v1, .int .i64 r.2.at_, .int .i64 r.2.seed_] 127 ∧ But (pB b0_) w w2) := by
  refine calls_of Tryd.func98 rfl Tryd.ntmps98 ?_
  have he0 : But (pB b0_) w w := But.refl _ w
  have := Box.lt hb5
  unfold F_spec_l14Draw at hF
  refine WC.seq ?_
  refine WC.region ?_
  refine TL.yld rfl rfl (yld_assign rfl rfl) ?_
  refine TL.done ?_
  refine NX.seq ?_
  refine WC.seq ?_
  refine WC.region ?_
  refine TL.eff rfl rfl (eff_buildSlice (c := C_Clock) (xs := ([] : List S_Clock)) (S := (Iv 0 0)) (uss := []) (out := []) rfl Tryd.underlying26 in_75 rfl rfl (fillL_all [] rfl rfl rfl) rfl rfl rfl rfl (one_rep (uss := []) (show reps _ _ _ _ _ from trivial) rfl) (fun k h => by have := h.2; omega) rfl) ?_
  rintro v8 w9 ⟨g10, hv11, hg12, hz13, hx14, hs15⟩
  have he16 : But (pB b0_) w w9 := But.ext he0 hx14
  have hb5 := Box.ext hb5 hx14
  have ha2 := slRep.old ha2 hx14 (by omega)
  have hz17 := (hx14).size
  have hlo18 : w.heap.size ≤ g10 := by rw [hg12]; exact (he0).size
  have hbd19 := bd_of hv11
  clear hv11
  refine TL.yld rfl rfl (yld_assign rfl rfl) ?_
  refine TL.done ?_
  refine NX.seq ?_
  refine WC.seq ?_
  refine WC.seq ?_
  refine WC.region ?_
  refine TL.yld rfl rfl (yld_move rfl rfl) ?_
  obtain ⟨r21, hr22, hF⟩ := bsome hF
  refine TL.eff rfl rfl (eff_call rfl gf_71 rfl (W_spec_l01Next hr22 hb5 ha2 (by omega) (by omega))) ?_
  rintro _ w23 ⟨rfl, hb25, hx24⟩
  have he26 : But (pB b0_) w w23 := But.but he16 hx24 (all_pB (Or.inl rfl))
  have ha2 := slRep.but ha2 hx24 (all_pB (by omega)) (by omega)
  have hp27 : ∀ g, v8.ownBlock = some g → g ≠ b0_ := (fun g hg => by have := hbd19 g hg; omega)
  have hs15 := ownR.butF hs15 hx24 (all_pB (fun g hg e => hp27 g hg e.symm))
  have hz28 := (hx24).size
  refine TL.yld rfl rfl (yld_add rfl rfl rfl) ?_
  refine TL.yld rfl rfl (yld_assign rfl rfl) ?_
  refine TL.done ?_
  refine NX.seq ?_
  refine WC.block ?_
  refine WC.loop (fun m41 a wl => ∃ (l31 : List S_Clock) (v32 : Value) (i35 : Int) (i37 : Int) (i38 : Int), Kn 163 [(0, .pointer (some ⟨b0_, 0, none⟩)), (3, v32), (4, .int .i64 i35)] a ∧ But (pB b0_) w wl ∧ w23.heap.size ≤ wl.heap.size ∧ Box wl b0_ [v1, .int .i64 i37, .int .i64 i38] 127 ∧ slRep (cInt .u8) wl (Iv lo3 hi4) a0_s.code_ v1 ∧ ownR C_Clock wl (g10) (Iv 0 0) 75 l31 v32 ∧ (∀ q, v32.ownBlock = some q → g10 ≤ q ∧ q < wl.heap.size) ∧ (∀ g, v32.ownBlock = some g → g ≠ b0_) ∧ F_spec_l14Draw_L1 n a0_s (fun l31 i35 i37 i38 => (Option.bind (F_spec_l01Next n ((S_l01Source.mk a0_s.code_ i37 i38)) ((l31.length : Int))) fun r41 => (Option.bind (F_spec_l01Next n ((S_l01Source.mk a0_s.code_ r41.2.at_ r41.2.seed_)) 30) fun r49 => (bif (r49.1 == 0) then (Option.bind (F_spec_l01Next n ((S_l01Source.mk a0_s.code_ r49.2.at_ r49.2.seed_)) 2) fun r58 => (Option.bind (getI l31 r41.1) fun x66 => (some ((l31.set (r41.1).toNat ((S_Clock.mk x66.Name x66.Place x66.Period x66.RiseAt x66.FallAt x66.Source (IntKind.wrap IntKind.i64 (9 * r58.1)) x66.Invert x66.EarlyLatency x66.LateLatency x66.Uncertainty))), (S_l01Source.mk a0_s.code_ r58.2.at_ r58.2.seed_))))) else (bif (r49.1 == 1) then (Option.bind (getI l31 r41.1) fun x80 => (Option.bind (getI l31 r41.1) fun x87 => (some ((l31.set (r41.1).toNat ((S_Clock.mk x87.Name x87.Place x87.Period x87.RiseAt x80.RiseAt x87.Source x87.Divide x87.Invert x87.EarlyLatency x87.LateLatency x87.Uncertainty))), (S_l01Source.mk a0_s.code_ r49.2.at_ r49.2.seed_))))) else (bif (r49.1 == 2) then (Option.bind (getI l31 0) fun x101 => (Option.bind (getI l31 r41.1) fun x108 => (some ((l31.set (r41.1).toNat ((S_Clock.mk x101.Name x108.Place x108.Period x108.RiseAt x108.FallAt x108.Source x108.Divide x108.Invert x108.EarlyLatency x108.LateLatency x108.Uncertainty))), (S_l01Source.mk a0_s.code_ r49.2.at_ r49.2.seed_))))) else (bif (r49.1 == 3) then (Option.bind (getI l31 r41.1) fun x122 => (some ((l31.set (r41.1).toNat ((S_Clock.mk x122.Name x122.Place x122.Period x122.RiseAt x122.FallAt r41.1 x122.Divide x122.Invert x122.EarlyLatency x122.LateLatency x122.Uncertainty))), (S_l01Source.mk a0_s.code_ r49.2.at_ r49.2.seed_)))) else (bif (r49.1 == 4) then (Option.bind (getI l31 r41.1) fun x136 => (Option.bind (getI l31 r41.1) fun x143 => (some ((l31.set (r41.1).toNat ((S_Clock.mk x143.Name x143.Place x143.Period x143.RiseAt x143.FallAt x143.Source x143.Divide x143.Invert x143.EarlyLatency (IntKind.wrap IntKind.i64 (x136.EarlyLatency - 1)) x143.Uncertainty))), (S_l01Source.mk a0_s.code_ r49.2.at_ r49.2.seed_))))) else (bif (r49.1 == 5) then (Option.bind (F_spec_l01Next n ((S_l01Source.mk a0_s.code_ r49.2.at_ r49.2.seed_)) 2) fun r157 => (Option.bind (getI l31 0) fun x165 => (some ((l31.set (0 : Int).toNat ((S_Clock.mk x165.Name x165.Place (IntKind.wrap IntKind.i64 (100000 + r157.1)) x165.RiseAt x165.FallAt x165.Source x165.Divide x165.Invert x165.EarlyLatency x165.LateLatency x165.Uncertainty))), (S_l01Source.mk a0_s.code_ r157.2.at_ r157.2.seed_))))) else (bif (r49.1 == 6) then (F_spec_l14Draw_L2 n (fun l181 => (some (l181, (S_l01Source.mk a0_s.code_ r49.2.at_ r49.2.seed_)))) n l31) else (some (l31, (S_l01Source.mk a0_s.code_ r49.2.at_ r49.2.seed_))))))))))))) m41 l31 i35 i37 i38 = some r) n ?_ ?_
  · intro a hK; exact ⟨(([] : List S_Clock)), v8, (IntKind.wrap IntKind.i64 (1 + r21.1)), r21.2.at_, r21.2.seed_, hK.weaken ⟨rfl, rfl, rfl, trivial⟩, he26, Nat.le_refl _, hb25, ha2, hs15, (fun g hg => by have := hbd19 g hg; omega), (fun g hg => by have := hbd19 g hg; omega), hF⟩
  · rintro m41 a w29 ⟨l31, v32, i35, i37, i38, hK, he30, hz42, hb36, hs39, hs33, hbd34, hp40, hF⟩
    revert hK; revert a; refine (?_ : WC _ _ _ _ _ _)
    cases m41 with
    | zero => rw [F_spec_l14Draw_L1_z] at hF; cases hF
    | succ m41 =>
      rw [F_spec_l14Draw_L1_s] at hF
      refine WC.seq ?_
      refine WC.seq ?_
      refine WC.region ?_
      refine TL.yld rfl rfl (yld_move rfl rfl) ?_
      refine TL.yld rfl rfl (yld_gtr rfl rfl rfl) ?_
      refine TL.done ?_
      refine NX.seq ?_
      refine WC.cond rfl ?_ ?_
      · intro hc43
        replace hF := bif_t hc43 hF
        refine WC.skip' ?_
        refine NX.seq ?_
        refine WC.seq ?_
        refine WC.block ?_
        refine WC.seq ?_
        refine WC.region ?_
        refine TL.yld rfl rfl (yld_move rfl rfl) ?_
        refine TL.yld rfl rfl (yld_len_own (c := C_Clock) rfl Tryd.underlying26 rfl hs33) ?_
        refine TL.yld rfl rfl (yld_assign rfl rfl) ?_
        refine TL.done ?_
        refine NX.seq ?_
        refine WC.seq ?_
        refine WC.region ?_
        refine TL.yld rfl rfl (yld_move rfl rfl) ?_
        obtain ⟨r44, hr45, hF⟩ := bsome hF
        refine TL.eff rfl rfl (eff_call rfl gf_71 rfl (W_spec_l01Next hr45 hb36 hs39 (by omega) (by omega))) ?_
        rintro _ w46 ⟨rfl, hb48, hx47⟩
        have he49 : But (pB b0_) w w46 := But.but he30 hx47 (all_pB (Or.inl rfl))
        have hs39 := slRep.but hs39 hx47 (all_pB (by omega)) (by omega)
        have hp50 : ∀ g, v32.ownBlock = some g → g ≠ b0_ := hp40
        have hs33 := ownR.butF hs33 hx47 (all_pB (fun g hg e => hp50 g hg e.symm))
        have hz51 := (hx47).size
        refine TL.yld rfl rfl (yld_assign rfl rfl) ?_
        refine TL.done ?_
        refine NX.seq ?_
        refine WC.seq ?_
        refine WC.region ?_
        refine TL.yld rfl rfl (yld_move rfl rfl) ?_
        obtain ⟨r52, hr53, hF⟩ := bsome hF
        refine TL.eff rfl rfl (eff_call rfl gf_133 rfl (W_spec_l01Number hr53)) ?_
        rintro _ w54 ⟨rfl, hx55⟩
        have he56 : But (pB b0_) w w54 := But.ext he49 hx55
        have hb48 := Box.ext hb48 hx55
        have hs39 := slRep.old hs39 hx55 (by omega)
        have hs33 := ownR.ext hs33 hx55
        have hz57 := (hx55).size
        obtain ⟨t58, ht59, hF⟩ := bsome hF
        refine TL.yld rfl rfl (yld_cat rfl rfl rfl ht59) ?_
        refine TL.yld rfl rfl (yld_move rfl rfl) ?_
        obtain ⟨r60, hr61, hF⟩ := bsome hF
        refine TL.eff rfl rfl (eff_call rfl gf_71 rfl (W_spec_l01Next hr61 hb48 hs39 (by omega) (by omega))) ?_
        rintro _ w62 ⟨rfl, hb64, hx63⟩
        have he65 : But (pB b0_) w w62 := But.but he56 hx63 (all_pB (Or.inl rfl))
        have hs39 := slRep.but hs39 hx63 (all_pB (by omega)) (by omega)
        have hp66 : ∀ g, v32.ownBlock = some g → g ≠ b0_ := hp40
        have hs33 := ownR.butF hs33 hx63 (all_pB (fun g hg e => hp66 g hg e.symm))
        have hz67 := (hx63).size
        refine TL.yld rfl rfl (yld_move rfl rfl) ?_
        refine TL.yld rfl rfl (yld_move rfl rfl) ?_
        refine TL.yld rfl rfl (yld_move rfl rfl) ?_
        obtain ⟨r68, hr69, hF⟩ := bsome hF
        refine TL.eff rfl rfl (eff_call rfl gf_71 rfl (W_spec_l01Next hr69 hb64 hs39 (by omega) (by omega))) ?_
        rintro _ w70 ⟨rfl, hb72, hx71⟩
        have he73 : But (pB b0_) w w70 := But.but he65 hx71 (all_pB (Or.inl rfl))
        have hs39 := slRep.but hs39 hx71 (all_pB (by omega)) (by omega)
        have hp74 : ∀ g, v32.ownBlock = some g → g ≠ b0_ := hp40
        have hs33 := ownR.butF hs33 hx71 (all_pB (fun g hg e => hp74 g hg e.symm))
        have hz75 := (hx71).size
        refine TL.yld rfl rfl (yld_add rfl rfl rfl) ?_
        refine TL.yld rfl rfl (yld_move rfl rfl) ?_
        obtain ⟨r76, hr77, hF⟩ := bsome hF
        refine TL.eff rfl rfl (eff_call rfl gf_71 rfl (W_spec_l01Next hr77 hb72 hs39 (by omega) (by omega))) ?_
        rintro _ w78 ⟨rfl, hb80, hx79⟩
        have he81 : But (pB b0_) w w78 := But.but he73 hx79 (all_pB (Or.inl rfl))
        have hs39 := slRep.but hs39 hx79 (all_pB (by omega)) (by omega)
        have hp82 : ∀ g, v32.ownBlock = some g → g ≠ b0_ := hp40
        have hs33 := ownR.butF hs33 hx79 (all_pB (fun g hg e => hp82 g hg e.symm))
        have hz83 := (hx79).size
        refine TL.yld rfl rfl (yld_build (uss := [(0, [.string t58]), (1, [.int .i64 r60.1]), (5, [.int .i64 (-1)]), (6, [.int .i64 1]), (8, [.int .i64 r44.1]), (9, [.int .i64 (IntKind.wrap IntKind.i64 (r44.1 + r68.1))]), (10, [.int .i64 r76.1])]) (out := [.string t58, .int .i64 r60.1, .int .i64 0, .int .i64 0, .int .i64 0, .int .i64 (-1), .int .i64 1, .bool false, .int .i64 r44.1, .int .i64 (IntKind.wrap IntKind.i64 (r44.1 + r68.1)), .int .i64 r76.1]) rfl rfl zn_75 pl_75 rfl rfl) ?_
        refine TL.eff rfl rfl (eff_alloc rfl zn_75) ?_
        rintro _ w85 ⟨b84, rfl, hn86⟩
        obtain ⟨hn86e, hn86s, hn86x, hb87⟩ := hn86
        have hb87 : Box w85 b84 [.string ByteArray.empty, .int .i64 0, .int .i64 0, .int .i64 0, .int .i64 0, .int .i64 0, .int .i64 0, .bool false, .int .i64 0, .int .i64 0, .int .i64 0] 75 := hb87
        have he89 : But (pB b0_) w w85 := But.ext he81 hn86x
        have hb80 := Box.ext hb80 hn86x
        have hs39 := slRep.old hs39 hn86x (by omega)
        have hs33 := ownR.ext hs33 hn86x
        have hz90 := (hn86x).size
        have hlo88 : w.heap.size ≤ b84 := by rw [hn86e]; exact (he81).size
        refine TL.eff rfl rfl (eff_store rfl rfl rfl hb87 cn_75 rfl rfl) ?_
        rintro _ w91 ⟨hu92, hb93⟩
        have he94 : But (pB b0_) w w91 := But.upd he89 hu92 (Or.inr (by omega))
        have hb80 := Box.upd hb80 hu92 (by omega)
        have hs39 := slRep.upd hs39 hu92 (by omega)
        have hs33 := ownR.upd hs33 hu92 (fun g hg => by have := hbd34 g hg; omega)
        have hz95 := (hu92).size
        have hb87 : Box w91 b84 [.string t58, .int .i64 r60.1, .int .i64 0, .int .i64 0, .int .i64 0, .int .i64 (-1), .int .i64 1, .bool false, .int .i64 r44.1, .int .i64 (IntKind.wrap IntKind.i64 (r44.1 + r68.1)), .int .i64 r76.1] 75 := hb93
        refine TL.done ?_
        refine NX.seq ?_
        refine WC.seq ?_
        refine WC.seq ?_
        refine WC.region ?_
        refine TL.yld rfl rfl (yld_move rfl rfl) ?_
        refine TL.yld rfl rfl (yld_eql rfl rfl rfl) ?_
        refine TL.yld rfl rfl (yld_move rfl rfl) ?_
        obtain ⟨c96, hb97, hF⟩ := bsome hF
        refine TL.cut 4 [(0, .pointer (some ⟨b0_, 0, none⟩)), (3, v32), (4, .int .i64 i35), (5, .int .i64 ((l31.length : Int))), (7, .pointer (some ⟨b84, 0, none⟩)), (41, .bool c96.1)] (fun w' => But (pB b0_) w91 w' ∧ Box w' b0_ [v1, .int .i64 c96.2.1, .int .i64 c96.2.2] 127) ?_ ?_
        · rcases Bool.eq_false_or_eq_true ((((l31.length : Int)) == 0)) with hg98 | hg98
          ·
            rw [hg98] at hb97; simp only [cond_true, cond_false] at hb97
            refine TL.gnu (j := 2) (t := 37) rfl rfl rfl hg98 rfl ?_
            refine TL.gnu (j := 2) (t := 37) rfl rfl rfl hg98 rfl ?_
            refine TL.gnu (j := 2) (t := 37) rfl rfl rfl hg98 rfl ?_
            obtain rfl := Option.some.inj hb97
            refine TL.yld rfl rfl (yld_pick_t rfl rfl hg98 rfl) ?_
            exact TL.nil fun a h => ⟨h.weaken ⟨rfl, rfl, rfl, rfl, rfl, rfl, trivial⟩, (But.refl _ _), hb80⟩
          ·
            rw [hg98] at hb97; simp only [cond_true, cond_false] at hb97
            replace hF := hb97
            refine TL.gy (j := 2) (t := 37) rfl rfl rfl hg98 rfl (yld_move rfl rfl) ?_
            obtain ⟨r99, hr100, hF⟩ := bsome hF
            refine TL.ge (j := 2) (t := 37) rfl rfl rfl hg98 rfl (eff_call rfl gf_71 rfl (W_spec_l01Next hr100 hb80 hs39 (by omega) (by omega))) ?_
            rintro _ w101 ⟨rfl, hb103, hx102⟩
            have he104 : But (pB b0_) w w101 := But.but he94 hx102 (all_pB (Or.inl rfl))
            have hb87 := Box.but hb87 hx102 (all_pB (by omega))
            have hs39 := slRep.but hs39 hx102 (all_pB (by omega)) (by omega)
            have hp105 : ∀ g, v32.ownBlock = some g → g ≠ b0_ := hp40
            have hs33 := ownR.butF hs33 hx102 (all_pB (fun g hg e => hp105 g hg e.symm))
            have hz106 := (hx102).size
            refine TL.gy (j := 2) (t := 37) rfl rfl rfl hg98 rfl (yld_eql rfl rfl rfl) ?_
            obtain rfl := Option.some.inj hF
            refine TL.yld rfl rfl (yld_pick_f rfl rfl hg98 rfl) ?_
            exact TL.nil fun a h => ⟨h.weaken ⟨rfl, rfl, rfl, rfl, rfl, rfl, trivial⟩, (But.but (But.refl _ _) hx102 (fun k q => Or.inl q)), hb103⟩
        rintro w107 ⟨hx108, hb109⟩
        have he110 : But (pB b0_) w w107 := But.but he94 hx108 (all_pB (Or.inl rfl))
        have hb87 := Box.but hb87 hx108 (all_pB (by omega))
        have hs39 := slRep.but hs39 hx108 (all_pB (by omega)) (by omega)
        have hp111 : ∀ g, v32.ownBlock = some g → g ≠ b0_ := hp40
        have hs33 := ownR.butF hs33 hx108 (all_pB (fun g hg e => hp111 g hg e.symm))
        have hz112 := (hx108).size
        refine TL.done ?_
        refine NX.seq ?_
        refine WC.cond rfl ?_ ?_
        · intro hc113
          replace hF := bif_t hc113 hF
          refine WC.seq ?_
          refine WC.region ?_
          refine TL.eff rfl rfl (eff_buildSlice (c := (cInt .i64)) (xs := [10, 12, 20, 30, 100, 7, 2]) (S := (Iv 0 0)) (uss := [(0, [.int .i64 10]), (1, [.int .i64 12]), (2, [.int .i64 20]), (3, [.int .i64 30]), (4, [.int .i64 100]), (5, [.int .i64 7]), (6, [.int .i64 2])]) (out := [.int .i64 10, .int .i64 12, .int .i64 20, .int .i64 30, .int .i64 100, .int .i64 7, .int .i64 2]) rfl Tryd.underlying42 in_2 rfl rfl (fillL_all [[.int .i64 10], [.int .i64 12], [.int .i64 20], [.int .i64 30], [.int .i64 100], [.int .i64 7], [.int .i64 2]] rfl rfl rfl) rfl rfl rfl rfl (one_rep (uss := [[.int .i64 10], [.int .i64 12], [.int .i64 20], [.int .i64 30], [.int .i64 100], [.int .i64 7], [.int .i64 2]]) (show reps _ _ _ _ _ from ⟨rfl, rfl, rfl, rfl, rfl, rfl, rfl, trivial⟩) rfl) (fun k h => by have := h.2; omega) rfl) ?_
          rintro v114 w115 ⟨g116, hv117, hg118, hz119, hx120, hs121⟩
          have he122 : But (pB b0_) w w115 := But.ext he110 hx120
          have hb109 := Box.ext hb109 hx120
          have hb87 := Box.ext hb87 hx120
          have hs39 := slRep.old hs39 hx120 (by omega)
          have hs33 := ownR.ext hs33 hx120
          have hz123 := (hx120).size
          have hlo124 : w.heap.size ≤ g116 := by rw [hg118]; exact (he110).size
          have hbd125 := bd_of hv117
          clear hv117
          refine TL.yld rfl rfl (yld_move rfl rfl) ?_
          obtain ⟨r127, hr128, hF⟩ := bsome hF
          refine TL.eff rfl rfl (eff_call rfl gf_71 rfl (W_spec_l01Next hr128 hb109 hs39 (by omega) (by omega))) ?_
          rintro _ w129 ⟨rfl, hb131, hx130⟩
          have he132 : But (pB b0_) w w129 := But.but he122 hx130 (all_pB (Or.inl rfl))
          have hb87 := Box.but hb87 hx130 (all_pB (by omega))
          have hs39 := slRep.but hs39 hx130 (all_pB (by omega)) (by omega)
          have hp133 : ∀ g, v32.ownBlock = some g → g ≠ b0_ := hp40
          have hs33 := ownR.butF hs33 hx130 (all_pB (fun g hg e => hp133 g hg e.symm))
          have hp134 : ∀ g, v114.ownBlock = some g → g ≠ b0_ := (fun g hg => by have := hbd125 g hg; omega)
          have hs121 := ownR.butF hs121 hx130 (all_pB (fun g hg e => hp134 g hg e.symm))
          have hz135 := (hx130).size
          obtain ⟨x136, hy137, hF⟩ := bsome hF
          refine TL.ye rfl rfl (ye_index_own (c := (cInt .i64)) rfl Tryd.underlying42 cn_2 rfl rfl hs121 hy137) ?_
          rintro _ ⟨g138, us140, rfl, hg139, hr141, hcl142⟩
          have hr141r := hr141
          obtain rfl := hr141
          refine TL.yld rfl rfl (yld_load1 0 rfl ag_2 rfl hcl142 rfl rfl) ?_
          refine TL.yld rfl rfl (yld_fieldAddr rfl fo_75_2 rfl) ?_
          refine TL.eff rfl rfl (eff_store rfl rfl rfl hb87 cn_2 rfl rfl) ?_
          rintro _ w143 ⟨hu144, hb145⟩
          have he146 : But (pB b0_) w w143 := But.upd he132 hu144 (Or.inr (by omega))
          have hb131 := Box.upd hb131 hu144 (by omega)
          have hs39 := slRep.upd hs39 hu144 (by omega)
          have hs33 := ownR.upd hs33 hu144 (fun g hg => by have := hbd34 g hg; omega)
          have hs121 := ownR.upd hs121 hu144 (fun g hg => by have := hbd125 g hg; omega)
          have hz147 := (hu144).size
          have hb87 : Box w143 b84 [.string t58, .int .i64 r60.1, .int .i64 x136, .int .i64 0, .int .i64 0, .int .i64 (-1), .int .i64 1, .bool false, .int .i64 r44.1, .int .i64 (IntKind.wrap IntKind.i64 (r44.1 + r68.1)), .int .i64 r76.1] 75 := hb145
          refine TL.done ?_
          refine NX.seq ?_
          refine WC.seq ?_
          refine WC.region ?_
          refine TL.yld rfl rfl (yld_move rfl rfl) ?_
          refine TL.yld rfl rfl (yld_fieldAddr rfl fo_75_2 rfl) ?_
          refine TL.yld rfl rfl (yld_load1 2 rfl ag_2 rfl (Box.cells hb87) rfl rfl) ?_
          obtain ⟨r148, hr149, hF⟩ := bsome hF
          refine TL.eff rfl rfl (eff_call rfl gf_71 rfl (W_spec_l01Next hr149 hb131 hs39 (by omega) (by omega))) ?_
          rintro _ w150 ⟨rfl, hb152, hx151⟩
          have he153 : But (pB b0_) w w150 := But.but he146 hx151 (all_pB (Or.inl rfl))
          have hb87 := Box.but hb87 hx151 (all_pB (by omega))
          have hs39 := slRep.but hs39 hx151 (all_pB (by omega)) (by omega)
          have hp154 : ∀ g, v32.ownBlock = some g → g ≠ b0_ := hp40
          have hs33 := ownR.butF hs33 hx151 (all_pB (fun g hg e => hp154 g hg e.symm))
          have hp155 : ∀ g, v114.ownBlock = some g → g ≠ b0_ := (fun g hg => by have := hbd125 g hg; omega)
          have hs121 := ownR.butF hs121 hx151 (all_pB (fun g hg e => hp155 g hg e.symm))
          have hz156 := (hx151).size
          refine TL.yld rfl rfl (yld_fieldAddr rfl fo_75_3 rfl) ?_
          refine TL.eff rfl rfl (eff_store rfl rfl rfl hb87 cn_2 rfl rfl) ?_
          rintro _ w157 ⟨hu158, hb159⟩
          have he160 : But (pB b0_) w w157 := But.upd he153 hu158 (Or.inr (by omega))
          have hb152 := Box.upd hb152 hu158 (by omega)
          have hs39 := slRep.upd hs39 hu158 (by omega)
          have hs33 := ownR.upd hs33 hu158 (fun g hg => by have := hbd34 g hg; omega)
          have hs121 := ownR.upd hs121 hu158 (fun g hg => by have := hbd125 g hg; omega)
          have hz161 := (hu158).size
          have hb87 : Box w157 b84 [.string t58, .int .i64 r60.1, .int .i64 x136, .int .i64 r148.1, .int .i64 0, .int .i64 (-1), .int .i64 1, .bool false, .int .i64 r44.1, .int .i64 (IntKind.wrap IntKind.i64 (r44.1 + r68.1)), .int .i64 r76.1] 75 := hb159
          refine TL.done ?_
          refine NX.seq ?_
          obtain ⟨r162, hr163, hF⟩ := bsome hF
          obtain ⟨hn171, hF⟩ := nzero hF
          refine WC.heldG (p := (pB b0_)) 11 Tryd.hm fun w177 hx178 => ?_
          have he179 : But (pB b0_) w w177 := But.ext he160 hx178
          have hb152 := Box.ext hb152 hx178
          have hb87 := Box.ext hb87 hx178
          have hs39 := slRep.old hs39 hx178 (by omega)
          have hs33 := ownR.ext hs33 hx178
          have hs121 := ownR.ext hs121 hx178
          have hz180 := (hx178).size
          refine HLG.yld 0 (by kernel_rfl) rfl (by kernel_rfl) rfl rfl (fun wx hbx => (yld_fieldAddr rfl fo_75_3 rfl)) ?_
          refine HLG.yld 1 (by kernel_rfl) rfl (by kernel_rfl) rfl rfl (fun wx hbx => (have hb87 := Box.but hb87 hbx (all_pB (by omega)); (yld_load1 3 rfl ag_2 rfl (Box.cells hb87) rfl rfl))) ?_
          refine HLG.yld 2 (by kernel_rfl) rfl (by kernel_rfl) rfl rfl (fun wx hbx => (yld_add rfl rfl rfl)) ?_
          refine HLG.yld 3 (by kernel_rfl) rfl (by kernel_rfl) rfl rfl (fun wx hbx => (yld_move rfl rfl)) ?_
          refine HLG.yld 4 (by kernel_rfl) rfl (by kernel_rfl) rfl rfl (fun wx hbx => (yld_fieldAddr rfl fo_75_2 rfl)) ?_
          refine HLG.yld 5 (by kernel_rfl) rfl (by kernel_rfl) rfl rfl (fun wx hbx => (have hb87 := Box.but hb87 hbx (all_pB (by omega)); (yld_load1 2 rfl ag_2 rfl (Box.cells hb87) rfl rfl))) ?_
          refine HLG.yld 6 (by kernel_rfl) rfl (by kernel_rfl) rfl rfl (fun wx hbx => (yld_sub rfl rfl rfl)) ?_
          refine HLG.yld 9 (by kernel_rfl) rfl (by kernel_rfl) rfl rfl (fun wx hbx => (yld_fieldAddr rfl fo_75_2 rfl)) ?_
          refine HLG.yld 10 (by kernel_rfl) rfl (by kernel_rfl) rfl rfl (fun wx hbx => (have hb87 := Box.but hb87 hbx (all_pB (by omega)); (yld_load1 2 rfl ag_2 rfl (Box.cells hb87) rfl rfl))) ?_
          refine HLG.eff 7 rfl rfl (by kernel_rfl) rfl rfl (eff_call rfl gf_71 rfl (W_spec_l01Next hr163 hb152 hs39 (by omega) (by omega))) ?_
          rintro _ w181 ⟨rfl, hb183, hx182⟩
          have he184 : But (pB b0_) w w181 := But.but he179 hx182 (all_pB (Or.inl rfl))
          have hb87 := Box.but hb87 hx182 (all_pB (by omega))
          have hs39 := slRep.but hs39 hx182 (all_pB (by omega)) (by omega)
          have hp185 : ∀ g, v32.ownBlock = some g → g ≠ b0_ := hp40
          have hs33 := ownR.butF hs33 hx182 (all_pB (fun g hg e => hp185 g hg e.symm))
          have hp186 : ∀ g, v114.ownBlock = some g → g ≠ b0_ := (fun g hg => by have := hbd125 g hg; omega)
          have hs121 := ownR.butF hs121 hx182 (all_pB (fun g hg e => hp186 g hg e.symm))
          have hz187 := (hx182).size
          have hbs188 : But (pB b0_) w177 w181 := (But.but (But.refl _ w177) hx182 (all_pB (Or.inl rfl)))
          refine ⟨hbs188, ?_⟩
          refine HLG.yld 8 (by kernel_rfl) rfl (by kernel_rfl) rfl rfl (fun wx hbx => (yld_add rfl rfl rfl)) ?_
          refine HLG.tail rfl (by kernel_rfl) rfl ?_
          refine TL.yld rfl rfl (yld_rem rfl rfl rfl hn171) ?_
          refine TL.yld rfl rfl (yld_fieldAddr rfl fo_75_4 rfl) ?_
          refine TL.eff rfl rfl (eff_store rfl rfl rfl hb87 cn_2 rfl rfl) ?_
          rintro _ w189 ⟨hu190, hb191⟩
          have he192 : But (pB b0_) w w189 := But.upd he184 hu190 (Or.inr (by omega))
          have hb183 := Box.upd hb183 hu190 (by omega)
          have hs39 := slRep.upd hs39 hu190 (by omega)
          have hs33 := ownR.upd hs33 hu190 (fun g hg => by have := hbd34 g hg; omega)
          have hs121 := ownR.upd hs121 hu190 (fun g hg => by have := hbd125 g hg; omega)
          have hz193 := (hu190).size
          have hb87 : Box w189 b84 [.string t58, .int .i64 r60.1, .int .i64 x136, .int .i64 r148.1, .int .i64 (Int.tmod (IntKind.wrap IntKind.i64 ((IntKind.wrap IntKind.i64 (r148.1 + 1)) + r162.1)) x136), .int .i64 (-1), .int .i64 1, .bool false, .int .i64 r44.1, .int .i64 (IntKind.wrap IntKind.i64 (r44.1 + r68.1)), .int .i64 r76.1] 75 := hb191
          refine TL.noPan (l := []) ?_
          refine NX.seq ?_
          refine WC.region ?_
          refine TL.yld rfl rfl (yld_move rfl rfl) ?_
          refine TL.yld rfl rfl (yld_loadN (us := [.string t58, .int .i64 r60.1, .int .i64 x136, .int .i64 r148.1, .int .i64 (Int.tmod (IntKind.wrap IntKind.i64 ((IntKind.wrap IntKind.i64 (r148.1 + 1)) + r162.1)) x136), .int .i64 (-1), .int .i64 1, .bool false, .int .i64 r44.1, .int .i64 (IntKind.wrap IntKind.i64 (r44.1 + r68.1)), .int .i64 r76.1]) rfl ag_75 rfl (Box.cells hb87) cn_75) ?_
          refine TL.eff rfl rfl (eff_buildSlice (c := C_Clock) (xs := [(S_Clock.mk t58 r60.1 x136 r148.1 (Int.tmod (IntKind.wrap IntKind.i64 ((IntKind.wrap IntKind.i64 (r148.1 + 1)) + r162.1)) x136) (-1) 1 false r44.1 (IntKind.wrap IntKind.i64 (r44.1 + r68.1)) r76.1)]) (S := (Iv 0 0)) (uss := [(0, [.string t58, .int .i64 r60.1, .int .i64 x136, .int .i64 r148.1, .int .i64 (Int.tmod (IntKind.wrap IntKind.i64 ((IntKind.wrap IntKind.i64 (r148.1 + 1)) + r162.1)) x136), .int .i64 (-1), .int .i64 1, .bool false, .int .i64 r44.1, .int .i64 (IntKind.wrap IntKind.i64 (r44.1 + r68.1)), .int .i64 r76.1])]) (out := [.string t58, .int .i64 r60.1, .int .i64 x136, .int .i64 r148.1, .int .i64 (Int.tmod (IntKind.wrap IntKind.i64 ((IntKind.wrap IntKind.i64 (r148.1 + 1)) + r162.1)) x136), .int .i64 (-1), .int .i64 1, .bool false, .int .i64 r44.1, .int .i64 (IntKind.wrap IntKind.i64 (r44.1 + r68.1)), .int .i64 r76.1]) rfl Tryd.underlying26 in_75 rfl rfl (fillL_all [[.string t58, .int .i64 r60.1, .int .i64 x136, .int .i64 r148.1, .int .i64 (Int.tmod (IntKind.wrap IntKind.i64 ((IntKind.wrap IntKind.i64 (r148.1 + 1)) + r162.1)) x136), .int .i64 (-1), .int .i64 1, .bool false, .int .i64 r44.1, .int .i64 (IntKind.wrap IntKind.i64 (r44.1 + r68.1)), .int .i64 r76.1]] rfl rfl rfl) rfl rfl rfl rfl (one_rep (uss := [[.string t58, .int .i64 r60.1, .int .i64 x136, .int .i64 r148.1, .int .i64 (Int.tmod (IntKind.wrap IntKind.i64 ((IntKind.wrap IntKind.i64 (r148.1 + 1)) + r162.1)) x136), .int .i64 (-1), .int .i64 1, .bool false, .int .i64 r44.1, .int .i64 (IntKind.wrap IntKind.i64 (r44.1 + r68.1)), .int .i64 r76.1]]) (show reps _ _ _ _ _ from ⟨C_Clock_mk, trivial⟩) rfl) (fun k h => by have := h.2; omega) rfl) ?_
          rintro v194 w195 ⟨g196, hv197, hg198, hz199, hx200, hs201⟩
          have he202 : But (pB b0_) w w195 := But.ext he192 hx200
          have hb183 := Box.ext hb183 hx200
          have hb87 := Box.ext hb87 hx200
          have hs39 := slRep.old hs39 hx200 (by omega)
          have hs33 := ownR.ext hs33 hx200
          have hs121 := ownR.ext hs121 hx200
          have hz203 := (hx200).size
          have hlo204 : w.heap.size ≤ g196 := by rw [hg198]; exact (he192).size
          have hbd205 := bd_of hv197
          clear hv197
          obtain ⟨z207, ha208, hF⟩ := bsome hF
          refine TL.eff rfl rfl (eff_appendF (c := C_Clock) rfl Tryd.underlying26 in_75 rfl rfl rfl rfl rfl hs33 (by omega) (ownR.slf hs201 (Nat.le_refl _) (Nat.le_refl _)) ha208) ?_
          rintro v209 w210 ⟨hs211, hgr212⟩
          have he214 : But (pB b0_) w w210 := But.grow he202 hgr212 (fun g hg => (Or.inr (by have := hbd34 g hg; omega)))
          have hp215 : ∀ g, v209.ownBlock = some g → g ≠ b0_ := Grew.sepP (p := fun g => g ≠ b0_) hgr212 hp40 (fun g hg => by omega)
          have hb183 := Grew.box hgr212 hb183 hp40
          have hp216 : ∀ g, v209.ownBlock = some g → g ≠ b84 := Grew.sepP (p := fun g => g ≠ b84) hgr212 (fun g hg => by have := hbd34 g hg; omega) (fun g hg => by omega)
          have hb87 := Grew.box hgr212 hb87 (fun g hg => by have := hbd34 g hg; omega)
          have hp217 : ∀ g, v209.ownBlock = some g → g < lo3 ∨ hi4 ≤ g := Grew.sepP (p := fun g => g < lo3 ∨ hi4 ≤ g) hgr212 (fun g hg => by have := hbd34 g hg; omega) (fun g hg => by omega)
          have hs39 := Grew.slr hgr212 hs39 (fun g hg => by have := hbd34 g hg; omega) (by omega)
          have hp218 : ∀ g q, v32.ownBlock = some g → v114.ownBlock = some q → g ≠ q := (fun g q hg hq => by have := hbd34 g hg; have := hbd125 q hq; omega)
          have hp219 : ∀ g q, v209.ownBlock = some g → v114.ownBlock = some q → g ≠ q := fun g q hg hq => Grew.sepP (p := fun g => ∀ q, v114.ownBlock = some q → g ≠ q) hgr212 (fun g hg q hq => (hp218) g q hg hq) (fun g hg q hq => by have := hbd125 q hq; omega) g hg q hq
          have hs121 := Grew.ownF hgr212 hs121 hp218
          have hp220 : ∀ g q, v32.ownBlock = some g → v194.ownBlock = some q → g ≠ q := (fun g q hg hq => by have := hbd34 g hg; have := hbd205 q hq; omega)
          have hp221 : ∀ g q, v209.ownBlock = some g → v194.ownBlock = some q → g ≠ q := fun g q hg hq => Grew.sepP (p := fun g => ∀ q, v194.ownBlock = some q → g ≠ q) hgr212 (fun g hg q hq => (hp220) g q hg hq) (fun g hg q hq => by have := hbd205 q hq; omega) g hg q hq
          have hs201 := Grew.ownF hgr212 hs201 hp220
          have hz222 := (hgr212).1.size
          have hbd223 : ∀ g, v209.ownBlock = some g → g10 ≤ g ∧ g < w210.heap.size := Grew.bd hgr212 hs211 (fun g hg => ⟨by have := hbd34 g hg; omega, (hbd34 g hg).2⟩) (by omega) (by omega)
          refine TL.yld rfl rfl (yld_assign rfl rfl) ?_
          refine TL.done ?_
          refine NX.blk_n ?_
          refine NX.seq ?_
          refine WC.region ?_
          refine TL.yld rfl rfl (yld_move rfl rfl) ?_
          refine TL.yld rfl rfl (yld_sub rfl rfl rfl) ?_
          refine TL.yld rfl rfl (yld_assign rfl rfl) ?_
          refine TL.done ?_
          refine NX.then_n ?_
          intro a hK; exact ⟨m41, Nat.lt_succ_self m41, z207, v209, (IntKind.wrap IntKind.i64 (i35 - 1)), r162.2.at_, r162.2.seed_, hK.weaken ⟨rfl, rfl, rfl, trivial⟩, he214, (by omega), hb183, hs39, hs211, (fun g hg => by have := hbd223 g hg; omega), hp215, hF⟩
        · intro hc224
          replace hF := bif_f hc224 hF
          refine WC.seq ?_
          refine WC.region ?_
          refine TL.yld rfl rfl (yld_move rfl rfl) ?_
          refine TL.yld rfl rfl (yld_move rfl rfl) ?_
          obtain ⟨r225, hr226, hF⟩ := bsome hF
          refine TL.eff rfl rfl (eff_call rfl gf_71 rfl (W_spec_l01Next hr226 hb109 hs39 (by omega) (by omega))) ?_
          rintro _ w227 ⟨rfl, hb229, hx228⟩
          have he230 : But (pB b0_) w w227 := But.but he110 hx228 (all_pB (Or.inl rfl))
          have hb87 := Box.but hb87 hx228 (all_pB (by omega))
          have hs39 := slRep.but hs39 hx228 (all_pB (by omega)) (by omega)
          have hp231 : ∀ g, v32.ownBlock = some g → g ≠ b0_ := hp40
          have hs33 := ownR.butF hs33 hx228 (all_pB (fun g hg e => hp231 g hg e.symm))
          have hz232 := (hx228).size
          refine TL.yld rfl rfl (yld_fieldAddr rfl fo_75_5 rfl) ?_
          refine TL.eff rfl rfl (eff_store rfl rfl rfl hb87 cn_2 rfl rfl) ?_
          rintro _ w233 ⟨hu234, hb235⟩
          have he236 : But (pB b0_) w w233 := But.upd he230 hu234 (Or.inr (by omega))
          have hb229 := Box.upd hb229 hu234 (by omega)
          have hs39 := slRep.upd hs39 hu234 (by omega)
          have hs33 := ownR.upd hs33 hu234 (fun g hg => by have := hbd34 g hg; omega)
          have hz237 := (hu234).size
          have hb87 : Box w233 b84 [.string t58, .int .i64 r60.1, .int .i64 0, .int .i64 0, .int .i64 0, .int .i64 r225.1, .int .i64 1, .bool false, .int .i64 r44.1, .int .i64 (IntKind.wrap IntKind.i64 (r44.1 + r68.1)), .int .i64 r76.1] 75 := hb235
          refine TL.done ?_
          refine NX.seq ?_
          refine WC.seq ?_
          refine WC.region ?_
          refine TL.yld rfl rfl (yld_move rfl rfl) ?_
          obtain ⟨r238, hr239, hF⟩ := bsome hF
          refine TL.eff rfl rfl (eff_call rfl gf_71 rfl (W_spec_l01Next hr239 hb229 hs39 (by omega) (by omega))) ?_
          rintro _ w240 ⟨rfl, hb242, hx241⟩
          have he243 : But (pB b0_) w w240 := But.but he236 hx241 (all_pB (Or.inl rfl))
          have hb87 := Box.but hb87 hx241 (all_pB (by omega))
          have hs39 := slRep.but hs39 hx241 (all_pB (by omega)) (by omega)
          have hp244 : ∀ g, v32.ownBlock = some g → g ≠ b0_ := hp40
          have hs33 := ownR.butF hs33 hx241 (all_pB (fun g hg e => hp244 g hg e.symm))
          have hz245 := (hx241).size
          refine TL.yld rfl rfl (yld_add rfl rfl rfl) ?_
          refine TL.yld rfl rfl (yld_fieldAddr rfl fo_75_6 rfl) ?_
          refine TL.eff rfl rfl (eff_store rfl rfl rfl hb87 cn_2 rfl rfl) ?_
          rintro _ w246 ⟨hu247, hb248⟩
          have he249 : But (pB b0_) w w246 := But.upd he243 hu247 (Or.inr (by omega))
          have hb242 := Box.upd hb242 hu247 (by omega)
          have hs39 := slRep.upd hs39 hu247 (by omega)
          have hs33 := ownR.upd hs33 hu247 (fun g hg => by have := hbd34 g hg; omega)
          have hz250 := (hu247).size
          have hb87 : Box w246 b84 [.string t58, .int .i64 r60.1, .int .i64 0, .int .i64 0, .int .i64 0, .int .i64 r225.1, .int .i64 (IntKind.wrap IntKind.i64 (1 + r238.1)), .bool false, .int .i64 r44.1, .int .i64 (IntKind.wrap IntKind.i64 (r44.1 + r68.1)), .int .i64 r76.1] 75 := hb248
          refine TL.done ?_
          refine NX.seq ?_
          refine WC.region ?_
          refine TL.yld rfl rfl (yld_move rfl rfl) ?_
          obtain ⟨r251, hr252, hF⟩ := bsome hF
          refine TL.eff rfl rfl (eff_call rfl gf_71 rfl (W_spec_l01Next hr252 hb242 hs39 (by omega) (by omega))) ?_
          rintro _ w253 ⟨rfl, hb255, hx254⟩
          have he256 : But (pB b0_) w w253 := But.but he249 hx254 (all_pB (Or.inl rfl))
          have hb87 := Box.but hb87 hx254 (all_pB (by omega))
          have hs39 := slRep.but hs39 hx254 (all_pB (by omega)) (by omega)
          have hp257 : ∀ g, v32.ownBlock = some g → g ≠ b0_ := hp40
          have hs33 := ownR.butF hs33 hx254 (all_pB (fun g hg e => hp257 g hg e.symm))
          have hz258 := (hx254).size
          refine TL.yld rfl rfl (yld_eql rfl rfl rfl) ?_
          refine TL.yld rfl rfl (yld_fieldAddr rfl fo_75_7 rfl) ?_
          refine TL.eff rfl rfl (eff_store rfl rfl rfl hb87 cn_4 rfl rfl) ?_
          rintro _ w259 ⟨hu260, hb261⟩
          have he262 : But (pB b0_) w w259 := But.upd he256 hu260 (Or.inr (by omega))
          have hb255 := Box.upd hb255 hu260 (by omega)
          have hs39 := slRep.upd hs39 hu260 (by omega)
          have hs33 := ownR.upd hs33 hu260 (fun g hg => by have := hbd34 g hg; omega)
          have hz263 := (hu260).size
          have hb87 : Box w259 b84 [.string t58, .int .i64 r60.1, .int .i64 0, .int .i64 0, .int .i64 0, .int .i64 r225.1, .int .i64 (IntKind.wrap IntKind.i64 (1 + r238.1)), .bool ((r251.1 == 0)), .int .i64 r44.1, .int .i64 (IntKind.wrap IntKind.i64 (r44.1 + r68.1)), .int .i64 r76.1] 75 := hb261
          refine TL.done ?_
          refine NX.seq ?_
          refine WC.region ?_
          refine TL.yld rfl rfl (yld_move rfl rfl) ?_
          refine TL.yld rfl rfl (yld_loadN (us := [.string t58, .int .i64 r60.1, .int .i64 0, .int .i64 0, .int .i64 0, .int .i64 r225.1, .int .i64 (IntKind.wrap IntKind.i64 (1 + r238.1)), .bool ((r251.1 == 0)), .int .i64 r44.1, .int .i64 (IntKind.wrap IntKind.i64 (r44.1 + r68.1)), .int .i64 r76.1]) rfl ag_75 rfl (Box.cells hb87) cn_75) ?_
          refine TL.eff rfl rfl (eff_buildSlice (c := C_Clock) (xs := [(S_Clock.mk t58 r60.1 0 0 0 r225.1 (IntKind.wrap IntKind.i64 (1 + r238.1)) ((r251.1 == 0)) r44.1 (IntKind.wrap IntKind.i64 (r44.1 + r68.1)) r76.1)]) (S := (Iv 0 0)) (uss := [(0, [.string t58, .int .i64 r60.1, .int .i64 0, .int .i64 0, .int .i64 0, .int .i64 r225.1, .int .i64 (IntKind.wrap IntKind.i64 (1 + r238.1)), .bool ((r251.1 == 0)), .int .i64 r44.1, .int .i64 (IntKind.wrap IntKind.i64 (r44.1 + r68.1)), .int .i64 r76.1])]) (out := [.string t58, .int .i64 r60.1, .int .i64 0, .int .i64 0, .int .i64 0, .int .i64 r225.1, .int .i64 (IntKind.wrap IntKind.i64 (1 + r238.1)), .bool ((r251.1 == 0)), .int .i64 r44.1, .int .i64 (IntKind.wrap IntKind.i64 (r44.1 + r68.1)), .int .i64 r76.1]) rfl Tryd.underlying26 in_75 rfl rfl (fillL_all [[.string t58, .int .i64 r60.1, .int .i64 0, .int .i64 0, .int .i64 0, .int .i64 r225.1, .int .i64 (IntKind.wrap IntKind.i64 (1 + r238.1)), .bool ((r251.1 == 0)), .int .i64 r44.1, .int .i64 (IntKind.wrap IntKind.i64 (r44.1 + r68.1)), .int .i64 r76.1]] rfl rfl rfl) rfl rfl rfl rfl (one_rep (uss := [[.string t58, .int .i64 r60.1, .int .i64 0, .int .i64 0, .int .i64 0, .int .i64 r225.1, .int .i64 (IntKind.wrap IntKind.i64 (1 + r238.1)), .bool ((r251.1 == 0)), .int .i64 r44.1, .int .i64 (IntKind.wrap IntKind.i64 (r44.1 + r68.1)), .int .i64 r76.1]]) (show reps _ _ _ _ _ from ⟨C_Clock_mk, trivial⟩) rfl) (fun k h => by have := h.2; omega) rfl) ?_
          rintro v264 w265 ⟨g266, hv267, hg268, hz269, hx270, hs271⟩
          have he272 : But (pB b0_) w w265 := But.ext he262 hx270
          have hb255 := Box.ext hb255 hx270
          have hb87 := Box.ext hb87 hx270
          have hs39 := slRep.old hs39 hx270 (by omega)
          have hs33 := ownR.ext hs33 hx270
          have hz273 := (hx270).size
          have hlo274 : w.heap.size ≤ g266 := by rw [hg268]; exact (he262).size
          have hbd275 := bd_of hv267
          clear hv267
          obtain ⟨z277, ha278, hF⟩ := bsome hF
          refine TL.eff rfl rfl (eff_appendF (c := C_Clock) rfl Tryd.underlying26 in_75 rfl rfl rfl rfl rfl hs33 (by omega) (ownR.slf hs271 (Nat.le_refl _) (Nat.le_refl _)) ha278) ?_
          rintro v279 w280 ⟨hs281, hgr282⟩
          have he284 : But (pB b0_) w w280 := But.grow he272 hgr282 (fun g hg => (Or.inr (by have := hbd34 g hg; omega)))
          have hp285 : ∀ g, v279.ownBlock = some g → g ≠ b0_ := Grew.sepP (p := fun g => g ≠ b0_) hgr282 hp40 (fun g hg => by omega)
          have hb255 := Grew.box hgr282 hb255 hp40
          have hp286 : ∀ g, v279.ownBlock = some g → g ≠ b84 := Grew.sepP (p := fun g => g ≠ b84) hgr282 (fun g hg => by have := hbd34 g hg; omega) (fun g hg => by omega)
          have hb87 := Grew.box hgr282 hb87 (fun g hg => by have := hbd34 g hg; omega)
          have hp287 : ∀ g, v279.ownBlock = some g → g < lo3 ∨ hi4 ≤ g := Grew.sepP (p := fun g => g < lo3 ∨ hi4 ≤ g) hgr282 (fun g hg => by have := hbd34 g hg; omega) (fun g hg => by omega)
          have hs39 := Grew.slr hgr282 hs39 (fun g hg => by have := hbd34 g hg; omega) (by omega)
          have hp288 : ∀ g q, v32.ownBlock = some g → v264.ownBlock = some q → g ≠ q := (fun g q hg hq => by have := hbd34 g hg; have := hbd275 q hq; omega)
          have hp289 : ∀ g q, v279.ownBlock = some g → v264.ownBlock = some q → g ≠ q := fun g q hg hq => Grew.sepP (p := fun g => ∀ q, v264.ownBlock = some q → g ≠ q) hgr282 (fun g hg q hq => (hp288) g q hg hq) (fun g hg q hq => by have := hbd275 q hq; omega) g hg q hq
          have hs271 := Grew.ownF hgr282 hs271 hp288
          have hz290 := (hgr282).1.size
          have hbd291 : ∀ g, v279.ownBlock = some g → g10 ≤ g ∧ g < w280.heap.size := Grew.bd hgr282 hs281 (fun g hg => ⟨by have := hbd34 g hg; omega, (hbd34 g hg).2⟩) (by omega) (by omega)
          refine TL.yld rfl rfl (yld_assign rfl rfl) ?_
          refine TL.done ?_
          refine NX.blk_n ?_
          refine NX.seq ?_
          refine WC.region ?_
          refine TL.yld rfl rfl (yld_move rfl rfl) ?_
          refine TL.yld rfl rfl (yld_sub rfl rfl rfl) ?_
          refine TL.yld rfl rfl (yld_assign rfl rfl) ?_
          refine TL.done ?_
          refine NX.then_n ?_
          intro a hK; exact ⟨m41, Nat.lt_succ_self m41, z277, v279, (IntKind.wrap IntKind.i64 (i35 - 1)), r251.2.at_, r251.2.seed_, hK.weaken ⟨rfl, rfl, rfl, trivial⟩, he284, (by omega), hb255, hs39, hs281, (fun g hg => by have := hbd291 g hg; omega), hp285, hF⟩
      · intro hc292
        replace hF := bif_f hc292 hF
        refine WC.exit' ?_
        refine NX.then_e ?_
        refine NX.then_e ?_
        refine NX.blk_hit ?_
        refine NX.seq ?_
        refine WC.seq ?_
        refine WC.region ?_
        refine TL.yld rfl rfl (yld_move rfl rfl) ?_
        refine TL.yld rfl rfl (yld_move rfl rfl) ?_
        refine TL.yld rfl rfl (yld_len_own (c := C_Clock) rfl Tryd.underlying26 rfl hs33) ?_
        obtain ⟨r293, hr294, hF⟩ := bsome hF
        refine TL.eff rfl rfl (eff_call rfl gf_71 rfl (W_spec_l01Next hr294 hb36 hs39 (by omega) (by omega))) ?_
        rintro _ w295 ⟨rfl, hb297, hx296⟩
        have he298 : But (pB b0_) w w295 := But.but he30 hx296 (all_pB (Or.inl rfl))
        have hs39 := slRep.but hs39 hx296 (all_pB (by omega)) (by omega)
        have hp299 : ∀ g, v32.ownBlock = some g → g ≠ b0_ := hp40
        have hs33 := ownR.butF hs33 hx296 (all_pB (fun g hg e => hp299 g hg e.symm))
        have hz300 := (hx296).size
        refine TL.yld rfl rfl (yld_assign rfl rfl) ?_
        refine TL.done ?_
        refine NX.seq ?_
        refine WC.seq ?_
        refine WC.seq ?_
        refine WC.region ?_
        refine TL.yld rfl rfl (yld_move rfl rfl) ?_
        obtain ⟨r301, hr302, hF⟩ := bsome hF
        refine TL.eff rfl rfl (eff_call rfl gf_71 rfl (W_spec_l01Next hr302 hb297 hs39 (by omega) (by omega))) ?_
        rintro _ w303 ⟨rfl, hb305, hx304⟩
        have he306 : But (pB b0_) w w303 := But.but he298 hx304 (all_pB (Or.inl rfl))
        have hs39 := slRep.but hs39 hx304 (all_pB (by omega)) (by omega)
        have hp307 : ∀ g, v32.ownBlock = some g → g ≠ b0_ := hp40
        have hs33 := ownR.butF hs33 hx304 (all_pB (fun g hg e => hp307 g hg e.symm))
        have hz308 := (hx304).size
        refine TL.done ?_
        refine NX.seq ?_
        refine WC.block ?_
        refine WC.seq ?_
        refine WC.region ?_
        refine TL.yld rfl rfl (yld_eql rfl rfl rfl) ?_
        refine TL.yld rfl rfl (yld_assign rfl rfl) ?_
        refine TL.done ?_
        refine NX.seq ?_
        refine WC.cond rfl ?_ ?_
        · intro hc309
          replace hF := bif_t hc309 hF
          refine WC.region ?_
          refine TL.yld rfl rfl (yld_move rfl rfl) ?_
          refine TL.yld rfl rfl (yld_move rfl rfl) ?_
          refine TL.yld rfl rfl (yld_move rfl rfl) ?_
          obtain ⟨r310, hr311, hF⟩ := bsome hF
          refine TL.eff rfl rfl (eff_call rfl gf_71 rfl (W_spec_l01Next hr311 hb305 hs39 (by omega) (by omega))) ?_
          rintro _ w312 ⟨rfl, hb314, hx313⟩
          have he315 : But (pB b0_) w w312 := But.but he306 hx313 (all_pB (Or.inl rfl))
          have hs39 := slRep.but hs39 hx313 (all_pB (by omega)) (by omega)
          have hp316 : ∀ g, v32.ownBlock = some g → g ≠ b0_ := hp40
          have hs33 := ownR.butF hs33 hx313 (all_pB (fun g hg e => hp316 g hg e.symm))
          have hz317 := (hx313).size
          refine TL.yld rfl rfl (yld_mul rfl rfl rfl) ?_
          obtain ⟨x318, hy319, hF⟩ := bsome hF
          refine TL.ye rfl rfl (ye_index_own (c := C_Clock) rfl Tryd.underlying26 cn_75 rfl rfl hs33 hy319) ?_
          rintro _ ⟨g320, us322, rfl, hg321, hr323, hcl324⟩
          have hr323r := hr323
          obtain rfl := C_Clock_open hr323
          refine TL.yld rfl rfl (yld_fieldAddr rfl fo_75_6 rfl) ?_
          refine TL.eff rfl rfl (eff_store_own (c := C_Clock) (us' := [.string x318.Name, .int .i64 x318.Place, .int .i64 x318.Period, .int .i64 x318.RiseAt, .int .i64 x318.FallAt, .int .i64 x318.Source, .int .i64 (IntKind.wrap IntKind.i64 (9 * r310.1)), .bool x318.Invert, .int .i64 x318.EarlyLatency, .int .i64 x318.LateLatency, .int .i64 x318.Uncertainty]) (y' := (S_Clock.mk x318.Name x318.Place x318.Period x318.RiseAt x318.FallAt x318.Source (IntKind.wrap IntKind.i64 (9 * r310.1)) x318.Invert x318.EarlyLatency x318.LateLatency x318.Uncertainty)) 6 _ rfl rfl rfl hs33 hg321 hy319 rfl cn_2 rfl hr323r hcl324 rfl rfl C_Clock_mk (fun k h => absurd h.2 (Nat.not_lt_zero k))) ?_
          rintro _ w325 ⟨hu326, hs327⟩
          have he328 : But (pB b0_) w w325 := But.upd he315 hu326 (Or.inr (by have := hbd34 _ hg321; omega))
          have hb314 := Box.upd hb314 hu326 (by have := hp40 _ hg321; omega)
          have hs39 := slRep.upd hs39 hu326 (by have := hbd34 _ hg321; omega)
          have hz329 := (hu326).size
          refine TL.done ?_
          refine NX.blk_n ?_
          refine NX.seq ?_
          refine WC.seq ?_
          refine WC.region ?_
          refine TL.yld rfl rfl (yld_move rfl rfl) ?_
          refine TL.yld rfl rfl (yld_assign rfl rfl) ?_
          refine TL.done ?_
          refine NX.seq ?_
          refine WC.ret' ?_
          obtain rfl := Option.some.inj hF
          exact NX.end (rs := [.tmp 2]) (vs := [v32]) rfl ⟨rfl, trivial⟩ ⟨_, rfl, _, rfl, ownR.base hs327 (by omega), hb314, he328⟩
        · intro hc330
          replace hF := bif_f hc330 hF
          refine WC.seq ?_
          refine WC.region ?_
          refine TL.yld rfl rfl (yld_eql rfl rfl rfl) ?_
          refine TL.yld rfl rfl (yld_assign rfl rfl) ?_
          refine TL.done ?_
          refine NX.seq ?_
          refine WC.cond rfl ?_ ?_
          · intro hc331
            replace hF := bif_t hc331 hF
            refine WC.region ?_
            refine TL.yld rfl rfl (yld_move rfl rfl) ?_
            refine TL.yld rfl rfl (yld_move rfl rfl) ?_
            refine TL.yld rfl rfl (yld_move rfl rfl) ?_
            refine TL.yld rfl rfl (yld_move rfl rfl) ?_
            obtain ⟨x332, hy333, hF⟩ := bsome hF
            refine TL.ye rfl rfl (ye_index_own (c := C_Clock) rfl Tryd.underlying26 cn_75 rfl rfl hs33 hy333) ?_
            rintro _ ⟨g334, us336, rfl, hg335, hr337, hcl338⟩
            have hr337r := hr337
            obtain rfl := C_Clock_open hr337
            refine TL.yld rfl rfl (yld_fieldAddr rfl fo_75_3 rfl) ?_
            refine TL.yld rfl rfl (yld_load1 3 rfl ag_2 rfl hcl338 rfl rfl) ?_
            obtain ⟨x339, hy340, hF⟩ := bsome hF
            refine TL.ye rfl rfl (ye_index_own (c := C_Clock) rfl Tryd.underlying26 cn_75 rfl rfl hs33 hy340) ?_
            rintro _ ⟨g341, us343, rfl, hg342, hr344, hcl345⟩
            have hr344r := hr344
            obtain rfl := C_Clock_open hr344
            refine TL.yld rfl rfl (yld_fieldAddr rfl fo_75_4 rfl) ?_
            refine TL.eff rfl rfl (eff_store_own (c := C_Clock) (us' := [.string x339.Name, .int .i64 x339.Place, .int .i64 x339.Period, .int .i64 x339.RiseAt, .int .i64 x332.RiseAt, .int .i64 x339.Source, .int .i64 x339.Divide, .bool x339.Invert, .int .i64 x339.EarlyLatency, .int .i64 x339.LateLatency, .int .i64 x339.Uncertainty]) (y' := (S_Clock.mk x339.Name x339.Place x339.Period x339.RiseAt x332.RiseAt x339.Source x339.Divide x339.Invert x339.EarlyLatency x339.LateLatency x339.Uncertainty)) 4 _ rfl rfl rfl hs33 hg342 hy340 rfl cn_2 rfl hr344r hcl345 rfl rfl C_Clock_mk (fun k h => absurd h.2 (Nat.not_lt_zero k))) ?_
            rintro _ w346 ⟨hu347, hs348⟩
            have he349 : But (pB b0_) w w346 := But.upd he306 hu347 (Or.inr (by have := hbd34 _ hg342; omega))
            have hb305 := Box.upd hb305 hu347 (by have := hp40 _ hg342; omega)
            have hs39 := slRep.upd hs39 hu347 (by have := hbd34 _ hg342; omega)
            have hz350 := (hu347).size
            refine TL.done ?_
            refine NX.blk_n ?_
            refine NX.seq ?_
            refine WC.seq ?_
            refine WC.region ?_
            refine TL.yld rfl rfl (yld_move rfl rfl) ?_
            refine TL.yld rfl rfl (yld_assign rfl rfl) ?_
            refine TL.done ?_
            refine NX.seq ?_
            refine WC.ret' ?_
            obtain rfl := Option.some.inj hF
            exact NX.end (rs := [.tmp 2]) (vs := [v32]) rfl ⟨rfl, trivial⟩ ⟨_, rfl, _, rfl, ownR.base hs348 (by omega), hb305, he349⟩
          · intro hc351
            replace hF := bif_f hc351 hF
            refine WC.seq ?_
            refine WC.region ?_
            refine TL.yld rfl rfl (yld_eql rfl rfl rfl) ?_
            refine TL.yld rfl rfl (yld_assign rfl rfl) ?_
            refine TL.done ?_
            refine NX.seq ?_
            refine WC.cond rfl ?_ ?_
            · intro hc352
              replace hF := bif_t hc352 hF
              refine WC.region ?_
              refine TL.yld rfl rfl (yld_move rfl rfl) ?_
              refine TL.yld rfl rfl (yld_move rfl rfl) ?_
              refine TL.yld rfl rfl (yld_move rfl rfl) ?_
              obtain ⟨x353, hy354, hF⟩ := bsome hF
              refine TL.ye rfl rfl (ye_index_own (c := C_Clock) rfl Tryd.underlying26 cn_75 rfl rfl hs33 hy354) ?_
              rintro _ ⟨g355, us357, rfl, hg356, hr358, hcl359⟩
              have hr358r := hr358
              obtain rfl := C_Clock_open hr358
              refine TL.yld rfl rfl (yld_fieldAddr rfl fo_75_0 rfl) ?_
              refine TL.yld rfl rfl (yld_load1 0 rfl ag_9 rfl hcl359 rfl rfl) ?_
              obtain ⟨x360, hy361, hF⟩ := bsome hF
              refine TL.ye rfl rfl (ye_index_own (c := C_Clock) rfl Tryd.underlying26 cn_75 rfl rfl hs33 hy361) ?_
              rintro _ ⟨g362, us364, rfl, hg363, hr365, hcl366⟩
              have hr365r := hr365
              obtain rfl := C_Clock_open hr365
              refine TL.yld rfl rfl (yld_fieldAddr rfl fo_75_0 rfl) ?_
              refine TL.eff rfl rfl (eff_store_own (c := C_Clock) (us' := [.string x353.Name, .int .i64 x360.Place, .int .i64 x360.Period, .int .i64 x360.RiseAt, .int .i64 x360.FallAt, .int .i64 x360.Source, .int .i64 x360.Divide, .bool x360.Invert, .int .i64 x360.EarlyLatency, .int .i64 x360.LateLatency, .int .i64 x360.Uncertainty]) (y' := (S_Clock.mk x353.Name x360.Place x360.Period x360.RiseAt x360.FallAt x360.Source x360.Divide x360.Invert x360.EarlyLatency x360.LateLatency x360.Uncertainty)) 0 _ rfl rfl rfl hs33 hg363 hy361 rfl cn_9 rfl hr365r hcl366 rfl rfl C_Clock_mk (fun k h => absurd h.2 (Nat.not_lt_zero k))) ?_
              rintro _ w367 ⟨hu368, hs369⟩
              have he370 : But (pB b0_) w w367 := But.upd he306 hu368 (Or.inr (by have := hbd34 _ hg363; omega))
              have hb305 := Box.upd hb305 hu368 (by have := hp40 _ hg363; omega)
              have hs39 := slRep.upd hs39 hu368 (by have := hbd34 _ hg363; omega)
              have hz371 := (hu368).size
              refine TL.done ?_
              refine NX.blk_n ?_
              refine NX.seq ?_
              refine WC.seq ?_
              refine WC.region ?_
              refine TL.yld rfl rfl (yld_move rfl rfl) ?_
              refine TL.yld rfl rfl (yld_assign rfl rfl) ?_
              refine TL.done ?_
              refine NX.seq ?_
              refine WC.ret' ?_
              obtain rfl := Option.some.inj hF
              exact NX.end (rs := [.tmp 2]) (vs := [v32]) rfl ⟨rfl, trivial⟩ ⟨_, rfl, _, rfl, ownR.base hs369 (by omega), hb305, he370⟩
            · intro hc372
              replace hF := bif_f hc372 hF
              refine WC.seq ?_
              refine WC.region ?_
              refine TL.yld rfl rfl (yld_eql rfl rfl rfl) ?_
              refine TL.yld rfl rfl (yld_assign rfl rfl) ?_
              refine TL.done ?_
              refine NX.seq ?_
              refine WC.cond rfl ?_ ?_
              · intro hc373
                replace hF := bif_t hc373 hF
                refine WC.region ?_
                refine TL.yld rfl rfl (yld_move rfl rfl) ?_
                refine TL.yld rfl rfl (yld_move rfl rfl) ?_
                refine TL.yld rfl rfl (yld_move rfl rfl) ?_
                obtain ⟨x374, hy375, hF⟩ := bsome hF
                refine TL.ye rfl rfl (ye_index_own (c := C_Clock) rfl Tryd.underlying26 cn_75 rfl rfl hs33 hy375) ?_
                rintro _ ⟨g376, us378, rfl, hg377, hr379, hcl380⟩
                have hr379r := hr379
                obtain rfl := C_Clock_open hr379
                refine TL.yld rfl rfl (yld_fieldAddr rfl fo_75_5 rfl) ?_
                refine TL.eff rfl rfl (eff_store_own (c := C_Clock) (us' := [.string x374.Name, .int .i64 x374.Place, .int .i64 x374.Period, .int .i64 x374.RiseAt, .int .i64 x374.FallAt, .int .i64 r293.1, .int .i64 x374.Divide, .bool x374.Invert, .int .i64 x374.EarlyLatency, .int .i64 x374.LateLatency, .int .i64 x374.Uncertainty]) (y' := (S_Clock.mk x374.Name x374.Place x374.Period x374.RiseAt x374.FallAt r293.1 x374.Divide x374.Invert x374.EarlyLatency x374.LateLatency x374.Uncertainty)) 5 _ rfl rfl rfl hs33 hg377 hy375 rfl cn_2 rfl hr379r hcl380 rfl rfl C_Clock_mk (fun k h => absurd h.2 (Nat.not_lt_zero k))) ?_
                rintro _ w381 ⟨hu382, hs383⟩
                have he384 : But (pB b0_) w w381 := But.upd he306 hu382 (Or.inr (by have := hbd34 _ hg377; omega))
                have hb305 := Box.upd hb305 hu382 (by have := hp40 _ hg377; omega)
                have hs39 := slRep.upd hs39 hu382 (by have := hbd34 _ hg377; omega)
                have hz385 := (hu382).size
                refine TL.done ?_
                refine NX.blk_n ?_
                refine NX.seq ?_
                refine WC.seq ?_
                refine WC.region ?_
                refine TL.yld rfl rfl (yld_move rfl rfl) ?_
                refine TL.yld rfl rfl (yld_assign rfl rfl) ?_
                refine TL.done ?_
                refine NX.seq ?_
                refine WC.ret' ?_
                obtain rfl := Option.some.inj hF
                exact NX.end (rs := [.tmp 2]) (vs := [v32]) rfl ⟨rfl, trivial⟩ ⟨_, rfl, _, rfl, ownR.base hs383 (by omega), hb305, he384⟩
              · intro hc386
                replace hF := bif_f hc386 hF
                refine WC.seq ?_
                refine WC.region ?_
                refine TL.yld rfl rfl (yld_eql rfl rfl rfl) ?_
                refine TL.yld rfl rfl (yld_assign rfl rfl) ?_
                refine TL.done ?_
                refine NX.seq ?_
                refine WC.cond rfl ?_ ?_
                · intro hc387
                  replace hF := bif_t hc387 hF
                  refine WC.region ?_
                  refine TL.yld rfl rfl (yld_move rfl rfl) ?_
                  refine TL.yld rfl rfl (yld_move rfl rfl) ?_
                  refine TL.yld rfl rfl (yld_move rfl rfl) ?_
                  refine TL.yld rfl rfl (yld_move rfl rfl) ?_
                  obtain ⟨x388, hy389, hF⟩ := bsome hF
                  refine TL.ye rfl rfl (ye_index_own (c := C_Clock) rfl Tryd.underlying26 cn_75 rfl rfl hs33 hy389) ?_
                  rintro _ ⟨g390, us392, rfl, hg391, hr393, hcl394⟩
                  have hr393r := hr393
                  obtain rfl := C_Clock_open hr393
                  refine TL.yld rfl rfl (yld_fieldAddr rfl fo_75_8 rfl) ?_
                  refine TL.yld rfl rfl (yld_load1 8 rfl ag_2 rfl hcl394 rfl rfl) ?_
                  refine TL.yld rfl rfl (yld_sub rfl rfl rfl) ?_
                  obtain ⟨x395, hy396, hF⟩ := bsome hF
                  refine TL.ye rfl rfl (ye_index_own (c := C_Clock) rfl Tryd.underlying26 cn_75 rfl rfl hs33 hy396) ?_
                  rintro _ ⟨g397, us399, rfl, hg398, hr400, hcl401⟩
                  have hr400r := hr400
                  obtain rfl := C_Clock_open hr400
                  refine TL.yld rfl rfl (yld_fieldAddr rfl fo_75_9 rfl) ?_
                  refine TL.eff rfl rfl (eff_store_own (c := C_Clock) (us' := [.string x395.Name, .int .i64 x395.Place, .int .i64 x395.Period, .int .i64 x395.RiseAt, .int .i64 x395.FallAt, .int .i64 x395.Source, .int .i64 x395.Divide, .bool x395.Invert, .int .i64 x395.EarlyLatency, .int .i64 (IntKind.wrap IntKind.i64 (x388.EarlyLatency - 1)), .int .i64 x395.Uncertainty]) (y' := (S_Clock.mk x395.Name x395.Place x395.Period x395.RiseAt x395.FallAt x395.Source x395.Divide x395.Invert x395.EarlyLatency (IntKind.wrap IntKind.i64 (x388.EarlyLatency - 1)) x395.Uncertainty)) 9 _ rfl rfl rfl hs33 hg398 hy396 rfl cn_2 rfl hr400r hcl401 rfl rfl C_Clock_mk (fun k h => absurd h.2 (Nat.not_lt_zero k))) ?_
                  rintro _ w402 ⟨hu403, hs404⟩
                  have he405 : But (pB b0_) w w402 := But.upd he306 hu403 (Or.inr (by have := hbd34 _ hg398; omega))
                  have hb305 := Box.upd hb305 hu403 (by have := hp40 _ hg398; omega)
                  have hs39 := slRep.upd hs39 hu403 (by have := hbd34 _ hg398; omega)
                  have hz406 := (hu403).size
                  refine TL.done ?_
                  refine NX.blk_n ?_
                  refine NX.seq ?_
                  refine WC.seq ?_
                  refine WC.region ?_
                  refine TL.yld rfl rfl (yld_move rfl rfl) ?_
                  refine TL.yld rfl rfl (yld_assign rfl rfl) ?_
                  refine TL.done ?_
                  refine NX.seq ?_
                  refine WC.ret' ?_
                  obtain rfl := Option.some.inj hF
                  exact NX.end (rs := [.tmp 2]) (vs := [v32]) rfl ⟨rfl, trivial⟩ ⟨_, rfl, _, rfl, ownR.base hs404 (by omega), hb305, he405⟩
                · intro hc407
                  replace hF := bif_f hc407 hF
                  refine WC.seq ?_
                  refine WC.region ?_
                  refine TL.yld rfl rfl (yld_eql rfl rfl rfl) ?_
                  refine TL.yld rfl rfl (yld_assign rfl rfl) ?_
                  refine TL.done ?_
                  refine NX.seq ?_
                  refine WC.cond rfl ?_ ?_
                  · intro hc408
                    replace hF := bif_t hc408 hF
                    refine WC.region ?_
                    refine TL.yld rfl rfl (yld_move rfl rfl) ?_
                    refine TL.yld rfl rfl (yld_move rfl rfl) ?_
                    obtain ⟨r409, hr410, hF⟩ := bsome hF
                    refine TL.eff rfl rfl (eff_call rfl gf_71 rfl (W_spec_l01Next hr410 hb305 hs39 (by omega) (by omega))) ?_
                    rintro _ w411 ⟨rfl, hb413, hx412⟩
                    have he414 : But (pB b0_) w w411 := But.but he306 hx412 (all_pB (Or.inl rfl))
                    have hs39 := slRep.but hs39 hx412 (all_pB (by omega)) (by omega)
                    have hp415 : ∀ g, v32.ownBlock = some g → g ≠ b0_ := hp40
                    have hs33 := ownR.butF hs33 hx412 (all_pB (fun g hg e => hp415 g hg e.symm))
                    have hz416 := (hx412).size
                    refine TL.yld rfl rfl (yld_add rfl rfl rfl) ?_
                    obtain ⟨x417, hy418, hF⟩ := bsome hF
                    refine TL.ye rfl rfl (ye_index_own (c := C_Clock) rfl Tryd.underlying26 cn_75 rfl rfl hs33 hy418) ?_
                    rintro _ ⟨g419, us421, rfl, hg420, hr422, hcl423⟩
                    have hr422r := hr422
                    obtain rfl := C_Clock_open hr422
                    refine TL.yld rfl rfl (yld_fieldAddr rfl fo_75_2 rfl) ?_
                    refine TL.eff rfl rfl (eff_store_own (c := C_Clock) (us' := [.string x417.Name, .int .i64 x417.Place, .int .i64 (IntKind.wrap IntKind.i64 (100000 + r409.1)), .int .i64 x417.RiseAt, .int .i64 x417.FallAt, .int .i64 x417.Source, .int .i64 x417.Divide, .bool x417.Invert, .int .i64 x417.EarlyLatency, .int .i64 x417.LateLatency, .int .i64 x417.Uncertainty]) (y' := (S_Clock.mk x417.Name x417.Place (IntKind.wrap IntKind.i64 (100000 + r409.1)) x417.RiseAt x417.FallAt x417.Source x417.Divide x417.Invert x417.EarlyLatency x417.LateLatency x417.Uncertainty)) 2 _ rfl rfl rfl hs33 hg420 hy418 rfl cn_2 rfl hr422r hcl423 rfl rfl C_Clock_mk (fun k h => absurd h.2 (Nat.not_lt_zero k))) ?_
                    rintro _ w424 ⟨hu425, hs426⟩
                    have he427 : But (pB b0_) w w424 := But.upd he414 hu425 (Or.inr (by have := hbd34 _ hg420; omega))
                    have hb413 := Box.upd hb413 hu425 (by have := hp40 _ hg420; omega)
                    have hs39 := slRep.upd hs39 hu425 (by have := hbd34 _ hg420; omega)
                    have hz428 := (hu425).size
                    refine TL.done ?_
                    refine NX.blk_n ?_
                    refine NX.seq ?_
                    refine WC.seq ?_
                    refine WC.region ?_
                    refine TL.yld rfl rfl (yld_move rfl rfl) ?_
                    refine TL.yld rfl rfl (yld_assign rfl rfl) ?_
                    refine TL.done ?_
                    refine NX.seq ?_
                    refine WC.ret' ?_
                    obtain rfl := Option.some.inj hF
                    exact NX.end (rs := [.tmp 2]) (vs := [v32]) rfl ⟨rfl, trivial⟩ ⟨_, rfl, _, rfl, ownR.base hs426 (by omega), hb413, he427⟩
                  · intro hc429
                    replace hF := bif_f hc429 hF
                    refine WC.seq ?_
                    refine WC.region ?_
                    refine TL.yld rfl rfl (yld_eql rfl rfl rfl) ?_
                    refine TL.yld rfl rfl (yld_assign rfl rfl) ?_
                    refine TL.done ?_
                    refine NX.seq ?_
                    refine WC.cond rfl ?_ ?_
                    · intro hc430
                      replace hF := bif_t hc430 hF
                      refine WC.block ?_
                      refine WC.loop (fun m440 a wl => ∃ (l433 : List S_Clock) (v434 : Value), Kn 163 [(3, v434)] a ∧ But (pB b0_) w wl ∧ w303.heap.size ≤ wl.heap.size ∧ Box wl b0_ [v1, .int .i64 r301.2.at_, .int .i64 r301.2.seed_] 127 ∧ slRep (cInt .u8) wl (Iv lo3 hi4) a0_s.code_ v1 ∧ ownR C_Clock wl (g10) (Iv 0 0) 75 l433 v434 ∧ (∀ q, v434.ownBlock = some q → g10 ≤ q ∧ q < wl.heap.size) ∧ (∀ g, v434.ownBlock = some g → g ≠ b0_) ∧ F_spec_l14Draw_L2 n (fun l433 => (some (l433, (S_l01Source.mk a0_s.code_ r301.2.at_ r301.2.seed_)))) m440 l433 = some r) n ?_ ?_
                      · intro a hK; exact ⟨l31, v32, hK.weaken ⟨rfl, trivial⟩, he306, Nat.le_refl _, hb305, hs39, hs33, (fun g hg => by have := hbd34 g hg; omega), hp40, hF⟩
                      · rintro m440 a w431 ⟨l433, v434, hK, he432, hz441, hb437, hs438, hs435, hbd436, hp439, hF⟩
                        revert hK; revert a; refine (?_ : WC _ _ _ _ _ _)
                        cases m440 with
                        | zero => rw [F_spec_l14Draw_L2_z] at hF; cases hF
                        | succ m440 =>
                          rw [F_spec_l14Draw_L2_s] at hF
                          refine WC.seq ?_
                          refine WC.seq ?_
                          refine WC.region ?_
                          refine TL.yld rfl rfl (yld_move rfl rfl) ?_
                          refine TL.yld rfl rfl (yld_len_own (c := C_Clock) rfl Tryd.underlying26 rfl hs435) ?_
                          refine TL.yld rfl rfl (yld_lss rfl rfl rfl) ?_
                          refine TL.done ?_
                          refine NX.seq ?_
                          refine WC.cond rfl ?_ ?_
                          · intro hc442
                            replace hF := bif_t hc442 hF
                            refine WC.skip' ?_
                            refine NX.seq ?_
                            refine WC.block ?_
                            refine WC.seq ?_
                            refine WC.region ?_
                            refine TL.yld rfl rfl (yld_move rfl rfl) ?_
                            obtain ⟨x443, hy444, hF⟩ := bsome hF
                            refine TL.ye rfl rfl (ye_index_own (c := C_Clock) rfl Tryd.underlying26 cn_75 rfl rfl hs435 hy444) ?_
                            rintro _ ⟨g445, us447, rfl, hg446, hr448, hcl449⟩
                            have hr448r := hr448
                            obtain rfl := C_Clock_open hr448
                            refine TL.yld rfl rfl (yld_loadN (us := [.string x443.Name, .int .i64 x443.Place, .int .i64 x443.Period, .int .i64 x443.RiseAt, .int .i64 x443.FallAt, .int .i64 x443.Source, .int .i64 x443.Divide, .bool x443.Invert, .int .i64 x443.EarlyLatency, .int .i64 x443.LateLatency, .int .i64 x443.Uncertainty]) rfl ag_75 rfl hcl449 cn_75) ?_
                            refine TL.eff rfl rfl (eff_alloc rfl zn_75) ?_
                            rintro _ w451 ⟨b450, rfl, hn452⟩
                            obtain ⟨hn452e, hn452s, hn452x, hb453⟩ := hn452
                            have hb453 : Box w451 b450 [.string ByteArray.empty, .int .i64 0, .int .i64 0, .int .i64 0, .int .i64 0, .int .i64 0, .int .i64 0, .bool false, .int .i64 0, .int .i64 0, .int .i64 0] 75 := hb453
                            have he455 : But (pB b0_) w w451 := But.ext he432 hn452x
                            have hb437 := Box.ext hb437 hn452x
                            have hs438 := slRep.old hs438 hn452x (by omega)
                            have hs435 := ownR.ext hs435 hn452x
                            have hz456 := (hn452x).size
                            have hlo454 : w.heap.size ≤ b450 := by rw [hn452e]; exact (he432).size
                            refine TL.eff rfl rfl (eff_store rfl rfl rfl hb453 cn_75 rfl rfl) ?_
                            rintro _ w457 ⟨hu458, hb459⟩
                            have he460 : But (pB b0_) w w457 := But.upd he455 hu458 (Or.inr (by omega))
                            have hb437 := Box.upd hb437 hu458 (by omega)
                            have hs438 := slRep.upd hs438 hu458 (by omega)
                            have hs435 := ownR.upd hs435 hu458 (fun g hg => by have := hbd436 g hg; omega)
                            have hz461 := (hu458).size
                            have hb453 : Box w457 b450 [.string x443.Name, .int .i64 x443.Place, .int .i64 x443.Period, .int .i64 x443.RiseAt, .int .i64 x443.FallAt, .int .i64 x443.Source, .int .i64 x443.Divide, .bool x443.Invert, .int .i64 x443.EarlyLatency, .int .i64 x443.LateLatency, .int .i64 x443.Uncertainty] 75 := hb459
                            refine TL.done ?_
                            refine NX.seq ?_
                            refine WC.seq ?_
                            refine WC.region ?_
                            refine TL.yld rfl rfl (yld_move rfl rfl) ?_
                            refine TL.yld rfl rfl (yld_len_own (c := C_Clock) rfl Tryd.underlying26 rfl hs435) ?_
                            obtain ⟨r462, hr463, hF⟩ := bsome hF
                            refine TL.eff rfl rfl (eff_call rfl gf_133 rfl (W_spec_l01Number hr463)) ?_
                            rintro _ w464 ⟨rfl, hx465⟩
                            have he466 : But (pB b0_) w w464 := But.ext he460 hx465
                            have hb437 := Box.ext hb437 hx465
                            have hb453 := Box.ext hb453 hx465
                            have hs438 := slRep.old hs438 hx465 (by omega)
                            have hs435 := ownR.ext hs435 hx465
                            have hz467 := (hx465).size
                            obtain ⟨t468, ht469, hF⟩ := bsome hF
                            refine TL.yld rfl rfl (yld_cat rfl rfl rfl ht469) ?_
                            refine TL.yld rfl rfl (yld_fieldAddr rfl fo_75_0 rfl) ?_
                            refine TL.eff rfl rfl (eff_store rfl rfl rfl hb453 cn_9 rfl rfl) ?_
                            rintro _ w470 ⟨hu471, hb472⟩
                            have he473 : But (pB b0_) w w470 := But.upd he466 hu471 (Or.inr (by omega))
                            have hb437 := Box.upd hb437 hu471 (by omega)
                            have hs438 := slRep.upd hs438 hu471 (by omega)
                            have hs435 := ownR.upd hs435 hu471 (fun g hg => by have := hbd436 g hg; omega)
                            have hz474 := (hu471).size
                            have hb453 : Box w470 b450 [.string t468, .int .i64 x443.Place, .int .i64 x443.Period, .int .i64 x443.RiseAt, .int .i64 x443.FallAt, .int .i64 x443.Source, .int .i64 x443.Divide, .bool x443.Invert, .int .i64 x443.EarlyLatency, .int .i64 x443.LateLatency, .int .i64 x443.Uncertainty] 75 := hb472
                            refine TL.done ?_
                            refine NX.seq ?_
                            refine WC.region ?_
                            refine TL.yld rfl rfl (yld_move rfl rfl) ?_
                            refine TL.yld rfl rfl (yld_loadN (us := [.string t468, .int .i64 x443.Place, .int .i64 x443.Period, .int .i64 x443.RiseAt, .int .i64 x443.FallAt, .int .i64 x443.Source, .int .i64 x443.Divide, .bool x443.Invert, .int .i64 x443.EarlyLatency, .int .i64 x443.LateLatency, .int .i64 x443.Uncertainty]) rfl ag_75 rfl (Box.cells hb453) cn_75) ?_
                            refine TL.eff rfl rfl (eff_buildSlice (c := C_Clock) (xs := [(S_Clock.mk t468 x443.Place x443.Period x443.RiseAt x443.FallAt x443.Source x443.Divide x443.Invert x443.EarlyLatency x443.LateLatency x443.Uncertainty)]) (S := (Iv 0 0)) (uss := [(0, [.string t468, .int .i64 x443.Place, .int .i64 x443.Period, .int .i64 x443.RiseAt, .int .i64 x443.FallAt, .int .i64 x443.Source, .int .i64 x443.Divide, .bool x443.Invert, .int .i64 x443.EarlyLatency, .int .i64 x443.LateLatency, .int .i64 x443.Uncertainty])]) (out := [.string t468, .int .i64 x443.Place, .int .i64 x443.Period, .int .i64 x443.RiseAt, .int .i64 x443.FallAt, .int .i64 x443.Source, .int .i64 x443.Divide, .bool x443.Invert, .int .i64 x443.EarlyLatency, .int .i64 x443.LateLatency, .int .i64 x443.Uncertainty]) rfl Tryd.underlying26 in_75 rfl rfl (fillL_all [[.string t468, .int .i64 x443.Place, .int .i64 x443.Period, .int .i64 x443.RiseAt, .int .i64 x443.FallAt, .int .i64 x443.Source, .int .i64 x443.Divide, .bool x443.Invert, .int .i64 x443.EarlyLatency, .int .i64 x443.LateLatency, .int .i64 x443.Uncertainty]] rfl rfl rfl) rfl rfl rfl rfl (one_rep (uss := [[.string t468, .int .i64 x443.Place, .int .i64 x443.Period, .int .i64 x443.RiseAt, .int .i64 x443.FallAt, .int .i64 x443.Source, .int .i64 x443.Divide, .bool x443.Invert, .int .i64 x443.EarlyLatency, .int .i64 x443.LateLatency, .int .i64 x443.Uncertainty]]) (show reps _ _ _ _ _ from ⟨C_Clock_mk, trivial⟩) rfl) (fun k h => by have := h.2; omega) rfl) ?_
                            rintro v475 w476 ⟨g477, hv478, hg479, hz480, hx481, hs482⟩
                            have he483 : But (pB b0_) w w476 := But.ext he473 hx481
                            have hb437 := Box.ext hb437 hx481
                            have hb453 := Box.ext hb453 hx481
                            have hs438 := slRep.old hs438 hx481 (by omega)
                            have hs435 := ownR.ext hs435 hx481
                            have hz484 := (hx481).size
                            have hlo485 : w.heap.size ≤ g477 := by rw [hg479]; exact (he473).size
                            have hbd486 := bd_of hv478
                            clear hv478
                            obtain ⟨z488, ha489, hF⟩ := bsome hF
                            refine TL.eff rfl rfl (eff_appendF (c := C_Clock) rfl Tryd.underlying26 in_75 rfl rfl rfl rfl rfl hs435 (by omega) (ownR.slf hs482 (Nat.le_refl _) (Nat.le_refl _)) ha489) ?_
                            rintro v490 w491 ⟨hs492, hgr493⟩
                            have he495 : But (pB b0_) w w491 := But.grow he483 hgr493 (fun g hg => (Or.inr (by have := hbd436 g hg; omega)))
                            have hp496 : ∀ g, v490.ownBlock = some g → g ≠ b0_ := Grew.sepP (p := fun g => g ≠ b0_) hgr493 hp439 (fun g hg => by omega)
                            have hb437 := Grew.box hgr493 hb437 hp439
                            have hp497 : ∀ g, v490.ownBlock = some g → g ≠ b450 := Grew.sepP (p := fun g => g ≠ b450) hgr493 (fun g hg => by have := hbd436 g hg; omega) (fun g hg => by omega)
                            have hb453 := Grew.box hgr493 hb453 (fun g hg => by have := hbd436 g hg; omega)
                            have hp498 : ∀ g, v490.ownBlock = some g → g < lo3 ∨ hi4 ≤ g := Grew.sepP (p := fun g => g < lo3 ∨ hi4 ≤ g) hgr493 (fun g hg => by have := hbd436 g hg; omega) (fun g hg => by omega)
                            have hs438 := Grew.slr hgr493 hs438 (fun g hg => by have := hbd436 g hg; omega) (by omega)
                            have hp499 : ∀ g q, v434.ownBlock = some g → v475.ownBlock = some q → g ≠ q := (fun g q hg hq => by have := hbd436 g hg; have := hbd486 q hq; omega)
                            have hp500 : ∀ g q, v490.ownBlock = some g → v475.ownBlock = some q → g ≠ q := fun g q hg hq => Grew.sepP (p := fun g => ∀ q, v475.ownBlock = some q → g ≠ q) hgr493 (fun g hg q hq => (hp499) g q hg hq) (fun g hg q hq => by have := hbd486 q hq; omega) g hg q hq
                            have hs482 := Grew.ownF hgr493 hs482 hp499
                            have hz501 := (hgr493).1.size
                            have hbd502 : ∀ g, v490.ownBlock = some g → g10 ≤ g ∧ g < w491.heap.size := Grew.bd hgr493 hs492 (fun g hg => ⟨by have := hbd436 g hg; omega, (hbd436 g hg).2⟩) (by omega) (by omega)
                            refine TL.yld rfl rfl (yld_assign rfl rfl) ?_
                            refine TL.done ?_
                            refine NX.blk_n ?_
                            refine NX.then_n ?_
                            intro a hK; exact ⟨m440, Nat.lt_succ_self m440, z488, v490, hK.weaken ⟨rfl, trivial⟩, he495, (by omega), hb437, hs438, hs492, (fun g hg => by have := hbd502 g hg; omega), hp496, hF⟩
                          · intro hc503
                            replace hF := bif_f hc503 hF
                            refine WC.exit' ?_
                            refine NX.then_e ?_
                            refine NX.then_e ?_
                            refine NX.blk_hit ?_
                            refine NX.blk_n ?_
                            refine NX.seq ?_
                            refine WC.seq ?_
                            refine WC.region ?_
                            refine TL.yld rfl rfl (yld_move rfl rfl) ?_
                            refine TL.yld rfl rfl (yld_assign rfl rfl) ?_
                            refine TL.done ?_
                            refine NX.seq ?_
                            refine WC.ret' ?_
                            obtain rfl := Option.some.inj hF
                            exact NX.end (rs := [.tmp 2]) (vs := [v434]) rfl ⟨rfl, trivial⟩ ⟨_, rfl, _, rfl, ownR.base hs435 (by omega), hb437, he432⟩
                    · intro hc504
                      replace hF := bif_f hc504 hF
                      refine WC.skip' ?_
                      refine NX.blk_n ?_
                      refine NX.seq ?_
                      refine WC.seq ?_
                      refine WC.region ?_
                      refine TL.yld rfl rfl (yld_move rfl rfl) ?_
                      refine TL.yld rfl rfl (yld_assign rfl rfl) ?_
                      refine TL.done ?_
                      refine NX.seq ?_
                      refine WC.ret' ?_
                      obtain rfl := Option.some.inj hF
                      exact NX.end (rs := [.tmp 2]) (vs := [v32]) rfl ⟨rfl, trivial⟩ ⟨_, rfl, _, rfl, ownR.base hs33 (by omega), hb305, he306⟩

-- loop.example/g00861/spec.l14DrawIndex
def F_spec_l14DrawIndex (n : Nat) (a0_s : S_l01Source) (a1_list : List S_Clock) : Option (Int × S_l01Source) := (Option.bind (F_spec_l01Next n a0_s 20) fun r14 => (bif (r14.1 == 0) then (Option.bind (F_spec_l01Next n ((S_l01Source.mk a0_s.code_ r14.2.at_ r14.2.seed_)) 2) fun r35 => (Option.bind (getI ([(-1), (a1_list.length : Int)]) r35.1) fun x43 => (some (x43, (S_l01Source.mk a0_s.code_ r35.2.at_ r35.2.seed_))))) else (Option.bind (F_spec_l01Next n ((S_l01Source.mk a0_s.code_ r14.2.at_ r14.2.seed_)) ((a1_list.length : Int))) fun r51 => (some (r51.1, (S_l01Source.mk a0_s.code_ r51.2.at_ r51.2.seed_))))))
set_option maxHeartbeats 40000000 in
theorem W_spec_l14DrawIndex {n : Nat} {a0_s : S_l01Source} {a1_list : List S_Clock} {r : Int × S_l01Source} {w : World} {v1 : Value} {lo3 hi4 : Nat} {b0_ : Nat} {v6 : Value} {lo8 hi9 : Nat} (hF : F_spec_l14DrawIndex n a0_s a1_list = some r) (hb5 : Box w b0_ [v1, .int .i64 a0_s.at_, .int .i64 a0_s.seed_] 127) (ha2 : slRep (cInt .u8) w (Iv lo3 hi4) a0_s.code_ v1) (hh10 : hi4 ≤ w.heap.size) (hh11 : b0_ < lo3 ∨ hi4 ≤ b0_) (ha7 : slRep C_Clock w (Iv lo8 hi9) a1_list v6) (hh12 : hi9 ≤ w.heap.size) (hh13 : b0_ < lo8 ∨ hi9 ≤ b0_) :
    Calls Tryd.prog 99 [.pointer (some ⟨b0_, 0, none⟩), v6].toArray w (Ret fun u w2 => u = .int .i64 r.1 ∧ Box w2 b0_ [v1, .int .i64 r.2.at_, .int .i64 r.2.seed_] 127 ∧ But (pB b0_) w w2) := by
  refine calls_of Tryd.func99 rfl Tryd.ntmps99 ?_
  have he0 : But (pB b0_) w w := But.refl _ w
  have := Box.lt hb5
  unfold F_spec_l14DrawIndex at hF
  refine WC.seq ?_
  refine WC.region ?_
  refine TL.yld rfl rfl (yld_assign rfl rfl) ?_
  refine TL.done ?_
  refine NX.seq ?_
  refine WC.seq ?_
  refine WC.seq ?_
  refine WC.region ?_
  refine TL.yld rfl rfl (yld_move rfl rfl) ?_
  obtain ⟨r14, hr15, hF⟩ := bsome hF
  refine TL.eff rfl rfl (eff_call rfl gf_71 rfl (W_spec_l01Next hr15 hb5 ha2 (by omega) (by omega))) ?_
  rintro _ w16 ⟨rfl, hb18, hx17⟩
  have he19 : But (pB b0_) w w16 := But.but he0 hx17 (all_pB (Or.inl rfl))
  have ha7 := slRep.but ha7 hx17 (all_pB (by omega)) (by omega)
  have ha2 := slRep.but ha2 hx17 (all_pB (by omega)) (by omega)
  have hz20 := (hx17).size
  refine TL.yld rfl rfl (yld_eql rfl rfl rfl) ?_
  refine TL.done ?_
  refine NX.seq ?_
  refine WC.cond rfl ?_ ?_
  · intro hc21
    replace hF := bif_t hc21 hF
    refine WC.seq ?_
    refine WC.region ?_
    refine TL.yld rfl rfl (yld_move rfl rfl) ?_
    refine TL.yld rfl rfl (ye_len (c := C_Clock) rfl Tryd.underlying26 rfl ha7) ?_
    refine TL.eff rfl rfl (eff_buildSlice (c := (cInt .i64)) (xs := [(-1), (a1_list.length : Int)]) (S := (Iv 0 0)) (uss := [(0, [.int .i64 (-1)]), (1, [.int .i64 ((a1_list.length : Int))])]) (out := [.int .i64 (-1), .int .i64 ((a1_list.length : Int))]) rfl Tryd.underlying42 in_2 rfl rfl (fillL_all [[.int .i64 (-1)], [.int .i64 ((a1_list.length : Int))]] rfl rfl rfl) rfl rfl rfl rfl (one_rep (uss := [[.int .i64 (-1)], [.int .i64 ((a1_list.length : Int))]]) (show reps _ _ _ _ _ from ⟨rfl, rfl, trivial⟩) rfl) (fun k h => by have := h.2; omega) rfl) ?_
    rintro v22 w23 ⟨g24, hv25, hg26, hz27, hx28, hs29⟩
    have he30 : But (pB b0_) w w23 := But.ext he19 hx28
    have hb18 := Box.ext hb18 hx28
    have ha7 := slRep.old ha7 hx28 (by omega)
    have ha2 := slRep.old ha2 hx28 (by omega)
    have hz31 := (hx28).size
    have hlo32 : w.heap.size ≤ g24 := by rw [hg26]; exact (he19).size
    have hbd33 := bd_of hv25
    clear hv25
    refine TL.yld rfl rfl (yld_move rfl rfl) ?_
    obtain ⟨r35, hr36, hF⟩ := bsome hF
    refine TL.eff rfl rfl (eff_call rfl gf_71 rfl (W_spec_l01Next hr36 hb18 ha2 (by omega) (by omega))) ?_
    rintro _ w37 ⟨rfl, hb39, hx38⟩
    have he40 : But (pB b0_) w w37 := But.but he30 hx38 (all_pB (Or.inl rfl))
    have ha7 := slRep.but ha7 hx38 (all_pB (by omega)) (by omega)
    have ha2 := slRep.but ha2 hx38 (all_pB (by omega)) (by omega)
    have hp41 : ∀ g, v22.ownBlock = some g → g ≠ b0_ := (fun g hg => by have := hbd33 g hg; omega)
    have hs29 := ownR.butF hs29 hx38 (all_pB (fun g hg e => hp41 g hg e.symm))
    have hz42 := (hx38).size
    obtain ⟨x43, hy44, hF⟩ := bsome hF
    refine TL.ye rfl rfl (ye_index_own (c := (cInt .i64)) rfl Tryd.underlying42 cn_2 rfl rfl hs29 hy44) ?_
    rintro _ ⟨g45, us47, rfl, hg46, hr48, hcl49⟩
    have hr48r := hr48
    obtain rfl := hr48
    refine TL.yld rfl rfl (yld_load1 0 rfl ag_2 rfl hcl49 rfl rfl) ?_
    refine TL.yld rfl rfl (yld_assign rfl rfl) ?_
    refine TL.done ?_
    refine NX.seq ?_
    refine WC.ret' ?_
    refine NX.then_r ?_
    obtain rfl := Option.some.inj hF
    exact NX.end (rs := [.tmp 4]) (vs := [.int .i64 x43]) rfl ⟨rfl, trivial⟩ ⟨_, rfl, rfl, hb39, he40⟩
  · intro hc50
    replace hF := bif_f hc50 hF
    refine WC.skip' ?_
    refine NX.seq ?_
    refine WC.seq ?_
    refine WC.region ?_
    refine TL.yld rfl rfl (yld_move rfl rfl) ?_
    refine TL.yld rfl rfl (yld_move rfl rfl) ?_
    refine TL.yld rfl rfl (ye_len (c := C_Clock) rfl Tryd.underlying26 rfl ha7) ?_
    obtain ⟨r51, hr52, hF⟩ := bsome hF
    refine TL.eff rfl rfl (eff_call rfl gf_71 rfl (W_spec_l01Next hr52 hb18 ha2 (by omega) (by omega))) ?_
    rintro _ w53 ⟨rfl, hb55, hx54⟩
    have he56 : But (pB b0_) w w53 := But.but he19 hx54 (all_pB (Or.inl rfl))
    have ha7 := slRep.but ha7 hx54 (all_pB (by omega)) (by omega)
    have ha2 := slRep.but ha2 hx54 (all_pB (by omega)) (by omega)
    have hz57 := (hx54).size
    refine TL.yld rfl rfl (yld_assign rfl rfl) ?_
    refine TL.done ?_
    refine NX.seq ?_
    refine WC.ret' ?_
    obtain rfl := Option.some.inj hF
    exact NX.end (rs := [.tmp 4]) (vs := [.int .i64 r51.1]) rfl ⟨rfl, trivial⟩ ⟨_, rfl, rfl, hb55, he56⟩

-- loop.example/g00861/spec.l14DrawEdge
def F_spec_l14DrawEdge (n : Nat) (a0_s : S_l01Source) : Option (Int × S_l01Source) := (Option.bind (F_spec_l01Next n a0_s 24) fun r8 => (bif (r8.1 == 0) then (Option.bind (F_spec_l01Next n ((S_l01Source.mk a0_s.code_ r8.2.at_ r8.2.seed_)) 2) fun r16 => (some (IntKind.wrap IntKind.i64 ((IntKind.wrap IntKind.i64 (3 * r16.1)) - 1), (S_l01Source.mk a0_s.code_ r16.2.at_ r16.2.seed_)))) else (Option.bind (F_spec_l01Next n ((S_l01Source.mk a0_s.code_ r8.2.at_ r8.2.seed_)) 2) fun r24 => (some (r24.1, (S_l01Source.mk a0_s.code_ r24.2.at_ r24.2.seed_))))))
set_option maxHeartbeats 40000000 in
theorem W_spec_l14DrawEdge {n : Nat} {a0_s : S_l01Source} {r : Int × S_l01Source} {w : World} {v1 : Value} {lo3 hi4 : Nat} {b0_ : Nat} (hF : F_spec_l14DrawEdge n a0_s = some r) (hb5 : Box w b0_ [v1, .int .i64 a0_s.at_, .int .i64 a0_s.seed_] 127) (ha2 : slRep (cInt .u8) w (Iv lo3 hi4) a0_s.code_ v1) (hh6 : hi4 ≤ w.heap.size) (hh7 : b0_ < lo3 ∨ hi4 ≤ b0_) :
    Calls Tryd.prog 100 [.pointer (some ⟨b0_, 0, none⟩)].toArray w (Ret fun u w2 => u = .int .i64 r.1 ∧ Box w2 b0_ [v1, .int .i64 r.2.at_, .int .i64 r.2.seed_] 127 ∧ But (pB b0_) w w2) := by
  refine calls_of Tryd.func100 rfl Tryd.ntmps100 ?_
  have he0 : But (pB b0_) w w := But.refl _ w
  have := Box.lt hb5
  unfold F_spec_l14DrawEdge at hF
  refine WC.seq ?_
  refine WC.region ?_
  refine TL.yld rfl rfl (yld_assign rfl rfl) ?_
  refine TL.done ?_
  refine NX.seq ?_
  refine WC.seq ?_
  refine WC.seq ?_
  refine WC.region ?_
  refine TL.yld rfl rfl (yld_move rfl rfl) ?_
  obtain ⟨r8, hr9, hF⟩ := bsome hF
  refine TL.eff rfl rfl (eff_call rfl gf_71 rfl (W_spec_l01Next hr9 hb5 ha2 (by omega) (by omega))) ?_
  rintro _ w10 ⟨rfl, hb12, hx11⟩
  have he13 : But (pB b0_) w w10 := But.but he0 hx11 (all_pB (Or.inl rfl))
  have ha2 := slRep.but ha2 hx11 (all_pB (by omega)) (by omega)
  have hz14 := (hx11).size
  refine TL.yld rfl rfl (yld_eql rfl rfl rfl) ?_
  refine TL.done ?_
  refine NX.seq ?_
  refine WC.cond rfl ?_ ?_
  · intro hc15
    replace hF := bif_t hc15 hF
    refine WC.seq ?_
    refine WC.region ?_
    refine TL.yld rfl rfl (yld_move rfl rfl) ?_
    obtain ⟨r16, hr17, hF⟩ := bsome hF
    refine TL.eff rfl rfl (eff_call rfl gf_71 rfl (W_spec_l01Next hr17 hb12 ha2 (by omega) (by omega))) ?_
    rintro _ w18 ⟨rfl, hb20, hx19⟩
    have he21 : But (pB b0_) w w18 := But.but he13 hx19 (all_pB (Or.inl rfl))
    have ha2 := slRep.but ha2 hx19 (all_pB (by omega)) (by omega)
    have hz22 := (hx19).size
    refine TL.yld rfl rfl (yld_mul rfl rfl rfl) ?_
    refine TL.yld rfl rfl (yld_sub rfl rfl rfl) ?_
    refine TL.yld rfl rfl (yld_assign rfl rfl) ?_
    refine TL.done ?_
    refine NX.seq ?_
    refine WC.ret' ?_
    refine NX.then_r ?_
    obtain rfl := Option.some.inj hF
    exact NX.end (rs := [.tmp 2]) (vs := [.int .i64 (IntKind.wrap IntKind.i64 ((IntKind.wrap IntKind.i64 (3 * r16.1)) - 1))]) rfl ⟨rfl, trivial⟩ ⟨_, rfl, rfl, hb20, he21⟩
  · intro hc23
    replace hF := bif_f hc23 hF
    refine WC.skip' ?_
    refine NX.seq ?_
    refine WC.seq ?_
    refine WC.region ?_
    refine TL.yld rfl rfl (yld_move rfl rfl) ?_
    obtain ⟨r24, hr25, hF⟩ := bsome hF
    refine TL.eff rfl rfl (eff_call rfl gf_71 rfl (W_spec_l01Next hr25 hb12 ha2 (by omega) (by omega))) ?_
    rintro _ w26 ⟨rfl, hb28, hx27⟩
    have he29 : But (pB b0_) w w26 := But.but he13 hx27 (all_pB (Or.inl rfl))
    have ha2 := slRep.but ha2 hx27 (all_pB (by omega)) (by omega)
    have hz30 := (hx27).size
    refine TL.yld rfl rfl (yld_assign rfl rfl) ?_
    refine TL.done ?_
    refine NX.seq ?_
    refine WC.ret' ?_
    obtain rfl := Option.some.inj hF
    exact NX.end (rs := [.tmp 2]) (vs := [.int .i64 r24.1]) rfl ⟨rfl, trivial⟩ ⟨_, rfl, rfl, hb28, he29⟩

-- loop.example/g00861/spec.l15DrawPair
def F_spec_l15DrawPair (n : Nat) (a0_s : S_l01Source) : Option ((List S_Clock) × Int × Int × Int × Int × S_l01Source) := (Option.bind (F_spec_l14Draw n a0_s) fun r8 => (Option.bind (F_spec_l14DrawIndex n ((S_l01Source.mk a0_s.code_ r8.2.at_ r8.2.seed_)) r8.1) fun r19 => (Option.bind (F_spec_l14DrawIndex n ((S_l01Source.mk a0_s.code_ r19.2.at_ r19.2.seed_)) r8.1) fun r27 => (Option.bind (bif decide ((r8.1.length : Int) > 1) then (Option.bind (F_spec_l01Next n ((S_l01Source.mk a0_s.code_ r27.2.at_ r27.2.seed_)) 2) fun r35 => (some ((r35.1 == 0), r35.2.at_, r35.2.seed_))) else (some (false, r27.2.at_, r27.2.seed_))) fun c35 => (bif c35.1 then (Option.bind (getI r8.1 0) fun x53 => (Option.bind (F_spec_l01Next n ((S_l01Source.mk a0_s.code_ c35.2.1 c35.2.2)) 24) fun r65 => (Option.bind (getI ((r8.1.set (0 : Int).toNat ((S_Clock.mk x53.Name x53.Place 24 x53.RiseAt x53.FallAt x53.Source x53.Divide x53.Invert x53.EarlyLatency x53.LateLatency x53.Uncertainty)))) 0) fun x73 => (Option.bind (getI ((((r8.1.set (0 : Int).toNat ((S_Clock.mk x53.Name x53.Place 24 x53.RiseAt x53.FallAt x53.Source x53.Divide x53.Invert x53.EarlyLatency x53.LateLatency x53.Uncertainty)))).set (0 : Int).toNat ((S_Clock.mk x73.Name x73.Place x73.Period r65.1 x73.FallAt x73.Source x73.Divide x73.Invert x73.EarlyLatency x73.LateLatency x73.Uncertainty)))) 0) fun x85 => (Option.bind (F_spec_l01Next n ((S_l01Source.mk a0_s.code_ r65.2.at_ r65.2.seed_)) 23) fun r92 => (Option.bind (getI ((((r8.1.set (0 : Int).toNat ((S_Clock.mk x53.Name x53.Place 24 x53.RiseAt x53.FallAt x53.Source x53.Divide x53.Invert x53.EarlyLatency x53.LateLatency x53.Uncertainty)))).set (0 : Int).toNat ((S_Clock.mk x73.Name x73.Place x73.Period r65.1 x73.FallAt x73.Source x73.Divide x73.Invert x73.EarlyLatency x73.LateLatency x73.Uncertainty)))) 0) fun x100 => (Option.bind (F_spec_l01Next n ((S_l01Source.mk a0_s.code_ r92.2.at_ r92.2.seed_)) 24) fun r139 => (bif (r139.1 == 0) then (Option.bind (F_spec_l01Next n ((S_l01Source.mk a0_s.code_ r139.2.at_ r139.2.seed_)) 4) fun r161 => (Option.bind (F_spec_l14DrawEdge n ((S_l01Source.mk a0_s.code_ r161.2.at_ r161.2.seed_))) fun r170 => (Option.bind (F_spec_l14DrawEdge n ((S_l01Source.mk a0_s.code_ r170.2.at_ r170.2.seed_))) fun r179 => (some ([(S_Clock.mk ((ByteArray.mk #[97])) 0 2 0 1 (-1) 1 false 0 0 0), (S_Clock.mk ((ByteArray.mk #[98])) 0 0 0 0 0 8 false 0 0 0), (S_Clock.mk ((ByteArray.mk #[99])) 0 0 0 0 1 8 false 0 0 0), (S_Clock.mk ((ByteArray.mk #[100])) 0 0 0 0 2 7 false 0 0 0)], 0, r170.1, r161.1, r179.1, (S_l01Source.mk a0_s.code_ r179.2.at_ r179.2.seed_)))))) else (Option.bind (F_spec_l14DrawEdge n ((S_l01Source.mk a0_s.code_ r139.2.at_ r139.2.seed_))) fun r189 => (Option.bind (F_spec_l14DrawEdge n ((S_l01Source.mk a0_s.code_ r189.2.at_ r189.2.seed_))) fun r197 => (some ((((((r8.1.set (0 : Int).toNat ((S_Clock.mk x53.Name x53.Place 24 x53.RiseAt x53.FallAt x53.Source x53.Divide x53.Invert x53.EarlyLatency x53.LateLatency x53.Uncertainty)))).set (0 : Int).toNat ((S_Clock.mk x73.Name x73.Place x73.Period r65.1 x73.FallAt x73.Source x73.Divide x73.Invert x73.EarlyLatency x73.LateLatency x73.Uncertainty)))).set (0 : Int).toNat ((S_Clock.mk x100.Name x100.Place x100.Period x100.RiseAt (Int.tmod (IntKind.wrap IntKind.i64 ((IntKind.wrap IntKind.i64 (x85.RiseAt + 1)) + r92.1)) 24) x100.Source x100.Divide x100.Invert x100.EarlyLatency x100.LateLatency x100.Uncertainty))), r19.1, r189.1, r27.1, r197.1, (S_l01Source.mk a0_s.code_ r197.2.at_ r197.2.seed_))))))))))))) else (Option.bind (F_spec_l01Next n ((S_l01Source.mk a0_s.code_ c35.2.1 c35.2.2)) 24) fun r206 => (bif (r206.1 == 0) then (Option.bind (F_spec_l01Next n ((S_l01Source.mk a0_s.code_ r206.2.at_ r206.2.seed_)) 4) fun r228 => (Option.bind (F_spec_l14DrawEdge n ((S_l01Source.mk a0_s.code_ r228.2.at_ r228.2.seed_))) fun r237 => (Option.bind (F_spec_l14DrawEdge n ((S_l01Source.mk a0_s.code_ r237.2.at_ r237.2.seed_))) fun r246 => (some ([(S_Clock.mk ((ByteArray.mk #[97])) 0 2 0 1 (-1) 1 false 0 0 0), (S_Clock.mk ((ByteArray.mk #[98])) 0 0 0 0 0 8 false 0 0 0), (S_Clock.mk ((ByteArray.mk #[99])) 0 0 0 0 1 8 false 0 0 0), (S_Clock.mk ((ByteArray.mk #[100])) 0 0 0 0 2 7 false 0 0 0)], 0, r237.1, r228.1, r246.1, (S_l01Source.mk a0_s.code_ r246.2.at_ r246.2.seed_)))))) else (Option.bind (F_spec_l14DrawEdge n ((S_l01Source.mk a0_s.code_ r206.2.at_ r206.2.seed_))) fun r256 => (Option.bind (F_spec_l14DrawEdge n ((S_l01Source.mk a0_s.code_ r256.2.at_ r256.2.seed_))) fun r264 => (some (r8.1, r19.1, r256.1, r27.1, r264.1, (S_l01Source.mk a0_s.code_ r264.2.at_ r264.2.seed_))))))))))))
set_option maxHeartbeats 40000000 in
theorem W_spec_l15DrawPair {n : Nat} {a0_s : S_l01Source} {r : (List S_Clock) × Int × Int × Int × Int × S_l01Source} {w : World} {v1 : Value} {lo3 hi4 : Nat} {b0_ : Nat} (hF : F_spec_l15DrawPair n a0_s = some r) (hb5 : Box w b0_ [v1, .int .i64 a0_s.at_, .int .i64 a0_s.seed_] 127) (ha2 : slRep (cInt .u8) w (Iv lo3 hi4) a0_s.code_ v1) (hh6 : hi4 ≤ w.heap.size) (hh7 : b0_ < lo3 ∨ hi4 ≤ b0_) :
    Calls Tryd.prog 58 [.pointer (some ⟨b0_, 0, none⟩)].toArray w (Ret fun u w2 => ∃ v0_0, u = .tuple #[v0_0, .int .i64 r.2.1, .int .i64 r.2.2.1, .int .i64 r.2.2.2.1, .int .i64 r.2.2.2.2.1] ∧ ownR C_Clock w2 w.heap.size (Iv 0 0) 75 r.1 v0_0 ∧ Box w2 b0_ [v1, .int .i64 r.2.2.2.2.2.at_, .int .i64 r.2.2.2.2.2.seed_] 127 ∧ But (pB b0_) w w2) := by
  refine calls_of Tryd.func58 rfl Tryd.ntmps58 ?_
  have he0 : But (pB b0_) w w := But.refl _ w
  have := Box.lt hb5
  unfold F_spec_l15DrawPair at hF
  refine WC.seq ?_
  refine WC.region ?_
  refine TL.yld rfl rfl (yld_assign rfl rfl) ?_
  refine TL.yld rfl rfl (yld_assign rfl rfl) ?_
  refine TL.yld rfl rfl (yld_assign rfl rfl) ?_
  refine TL.yld rfl rfl (yld_assign rfl rfl) ?_
  refine TL.yld rfl rfl (yld_assign rfl rfl) ?_
  refine TL.done ?_
  refine NX.seq ?_
  refine WC.seq ?_
  refine WC.region ?_
  refine TL.yld rfl rfl (yld_move rfl rfl) ?_
  obtain ⟨r8, hr9, hF⟩ := bsome hF
  refine TL.eff rfl rfl (eff_call rfl gf_98 rfl (W_spec_l14Draw hr9 hb5 ha2 (by omega) (by omega))) ?_
  rintro v12 w10 ⟨_, rfl, hs13, hb16, hx11⟩
  have he17 : But (pB b0_) w w10 := But.but he0 hx11 (all_pB (Or.inl rfl))
  have ha2 := slRep.but ha2 hx11 (all_pB (by omega)) (by omega)
  have hz18 := (hx11).size
  have hbd15 := ownR.blk hs13
  refine TL.yld rfl rfl (yld_assign rfl rfl) ?_
  refine TL.done ?_
  refine NX.seq ?_
  refine WC.seq ?_
  refine WC.region ?_
  refine TL.yld rfl rfl (yld_move rfl rfl) ?_
  refine TL.yld rfl rfl (yld_move rfl rfl) ?_
  obtain ⟨r19, hr20, hF⟩ := bsome hF
  refine TL.eff rfl rfl (eff_call rfl gf_99 rfl (W_spec_l14DrawIndex hr20 hb16 ha2 (by omega) (by omega) (ownR.slb hs13 hbd15) (by omega) (by have := trivial; omega))) ?_
  rintro _ w21 ⟨rfl, hb23, hx22⟩
  have he24 : But (pB b0_) w w21 := But.but he17 hx22 (all_pB (Or.inl rfl))
  have ha2 := slRep.but ha2 hx22 (all_pB (by omega)) (by omega)
  have hp25 : ∀ g, v12.ownBlock = some g → g ≠ b0_ := (fun g hg => by have := hbd15 g hg; omega)
  have hs13 := ownR.butF hs13 hx22 (all_pB (fun g hg e => hp25 g hg e.symm))
  have hz26 := (hx22).size
  refine TL.yld rfl rfl (yld_move rfl rfl) ?_
  refine TL.yld rfl rfl (yld_move rfl rfl) ?_
  obtain ⟨r27, hr28, hF⟩ := bsome hF
  refine TL.eff rfl rfl (eff_call rfl gf_99 rfl (W_spec_l14DrawIndex hr28 hb23 ha2 (by omega) (by omega) (ownR.slb hs13 hbd15) (by omega) (by have := trivial; omega))) ?_
  rintro _ w29 ⟨rfl, hb31, hx30⟩
  have he32 : But (pB b0_) w w29 := But.but he24 hx30 (all_pB (Or.inl rfl))
  have ha2 := slRep.but ha2 hx30 (all_pB (by omega)) (by omega)
  have hp33 : ∀ g, v12.ownBlock = some g → g ≠ b0_ := (fun g hg => by have := hbd15 g hg; omega)
  have hs13 := ownR.butF hs13 hx30 (all_pB (fun g hg e => hp33 g hg e.symm))
  have hz34 := (hx30).size
  refine TL.yld rfl rfl (yld_assign rfl rfl) ?_
  refine TL.yld rfl rfl (yld_assign rfl rfl) ?_
  refine TL.done ?_
  refine NX.seq ?_
  refine WC.seq ?_
  refine WC.seq ?_
  refine WC.region ?_
  refine TL.yld rfl rfl (yld_move rfl rfl) ?_
  refine TL.yld rfl rfl (yld_len_own (c := C_Clock) rfl Tryd.underlying26 rfl hs13) ?_
  refine TL.yld rfl rfl (yld_gtr rfl rfl rfl) ?_
  refine TL.yld rfl rfl (yld_move rfl rfl) ?_
  obtain ⟨c35, hb36, hF⟩ := bsome hF
  refine TL.cut 4 [(0, .pointer (some ⟨b0_, 0, none⟩)), (7, v12), (8, .int .i64 r19.1), (9, .int .i64 r27.1), (25, .bool c35.1)] (fun w' => But (pB b0_) w29 w' ∧ Box w' b0_ [v1, .int .i64 c35.2.1, .int .i64 c35.2.2] 127) ?_ ?_
  · rcases Bool.eq_false_or_eq_true (decide ((r8.1.length : Int) > 1)) with hg37 | hg37
    ·
      rw [hg37] at hb36; simp only [cond_true, cond_false] at hb36
      replace hF := hb36
      refine TL.gy (j := 3) (t := 21) rfl rfl rfl hg37 rfl (yld_move rfl rfl) ?_
      obtain ⟨r38, hr39, hF⟩ := bsome hF
      refine TL.ge (j := 3) (t := 21) rfl rfl rfl hg37 rfl (eff_call rfl gf_71 rfl (W_spec_l01Next hr39 hb31 ha2 (by omega) (by omega))) ?_
      rintro _ w40 ⟨rfl, hb42, hx41⟩
      have he43 : But (pB b0_) w w40 := But.but he32 hx41 (all_pB (Or.inl rfl))
      have ha2 := slRep.but ha2 hx41 (all_pB (by omega)) (by omega)
      have hp44 : ∀ g, v12.ownBlock = some g → g ≠ b0_ := (fun g hg => by have := hbd15 g hg; omega)
      have hs13 := ownR.butF hs13 hx41 (all_pB (fun g hg e => hp44 g hg e.symm))
      have hz45 := (hx41).size
      refine TL.gy (j := 3) (t := 21) rfl rfl rfl hg37 rfl (yld_eql rfl rfl rfl) ?_
      obtain rfl := Option.some.inj hF
      refine TL.yld rfl rfl (yld_pick_t rfl rfl hg37 rfl) ?_
      exact TL.nil fun a h => ⟨h.weaken ⟨rfl, rfl, rfl, rfl, rfl, trivial⟩, (But.but (But.refl _ _) hx41 (fun k q => Or.inl q)), hb42⟩
    ·
      rw [hg37] at hb36; simp only [cond_true, cond_false] at hb36
      refine TL.gnu (j := 3) (t := 21) rfl rfl rfl hg37 rfl ?_
      refine TL.gnu (j := 3) (t := 21) rfl rfl rfl hg37 rfl ?_
      refine TL.gnu (j := 3) (t := 21) rfl rfl rfl hg37 rfl ?_
      obtain rfl := Option.some.inj hb36
      refine TL.yld rfl rfl (yld_pick_f rfl rfl hg37 rfl) ?_
      exact TL.nil fun a h => ⟨h.weaken ⟨rfl, rfl, rfl, rfl, rfl, trivial⟩, (But.refl _ _), hb31⟩
  rintro w46 ⟨hx47, hb48⟩
  have he49 : But (pB b0_) w w46 := But.but he32 hx47 (all_pB (Or.inl rfl))
  have ha2 := slRep.but ha2 hx47 (all_pB (by omega)) (by omega)
  have hp50 : ∀ g, v12.ownBlock = some g → g ≠ b0_ := (fun g hg => by have := hbd15 g hg; omega)
  have hs13 := ownR.butF hs13 hx47 (all_pB (fun g hg e => hp50 g hg e.symm))
  have hz51 := (hx47).size
  refine TL.done ?_
  refine NX.seq ?_
  refine WC.cond rfl ?_ ?_
  · intro hc52
    replace hF := bif_t hc52 hF
    refine WC.seq ?_
    refine WC.region ?_
    refine TL.yld rfl rfl (yld_move rfl rfl) ?_
    obtain ⟨x53, hy54, hF⟩ := bsome hF
    refine TL.ye rfl rfl (ye_index_own (c := C_Clock) rfl Tryd.underlying26 cn_75 rfl rfl hs13 hy54) ?_
    rintro _ ⟨g55, us57, rfl, hg56, hr58, hcl59⟩
    have hr58r := hr58
    obtain rfl := C_Clock_open hr58
    refine TL.yld rfl rfl (yld_fieldAddr rfl fo_75_2 rfl) ?_
    refine TL.eff rfl rfl (eff_store_own (c := C_Clock) (us' := [.string x53.Name, .int .i64 x53.Place, .int .i64 24, .int .i64 x53.RiseAt, .int .i64 x53.FallAt, .int .i64 x53.Source, .int .i64 x53.Divide, .bool x53.Invert, .int .i64 x53.EarlyLatency, .int .i64 x53.LateLatency, .int .i64 x53.Uncertainty]) (y' := (S_Clock.mk x53.Name x53.Place 24 x53.RiseAt x53.FallAt x53.Source x53.Divide x53.Invert x53.EarlyLatency x53.LateLatency x53.Uncertainty)) 2 _ rfl rfl rfl hs13 hg56 hy54 rfl cn_2 rfl hr58r hcl59 rfl rfl C_Clock_mk (fun k h => absurd h.2 (Nat.not_lt_zero k))) ?_
    rintro _ w60 ⟨hu61, hs62⟩
    have he63 : But (pB b0_) w w60 := But.upd he49 hu61 (Or.inr (by have := hbd15 _ hg56; omega))
    have hb48 := Box.upd hb48 hu61 (by have := hbd15 _ hg56; omega)
    have ha2 := slRep.upd ha2 hu61 (by have := hbd15 _ hg56; omega)
    have hz64 := (hu61).size
    refine TL.done ?_
    refine NX.seq ?_
    refine WC.seq ?_
    refine WC.region ?_
    refine TL.yld rfl rfl (yld_move rfl rfl) ?_
    refine TL.yld rfl rfl (yld_move rfl rfl) ?_
    obtain ⟨r65, hr66, hF⟩ := bsome hF
    refine TL.eff rfl rfl (eff_call rfl gf_71 rfl (W_spec_l01Next hr66 hb48 ha2 (by omega) (by omega))) ?_
    rintro _ w67 ⟨rfl, hb69, hx68⟩
    have he70 : But (pB b0_) w w67 := But.but he63 hx68 (all_pB (Or.inl rfl))
    have ha2 := slRep.but ha2 hx68 (all_pB (by omega)) (by omega)
    have hp71 : ∀ g, v12.ownBlock = some g → g ≠ b0_ := (fun g hg => by have := hbd15 g hg; omega)
    have hs62 := ownR.butF hs62 hx68 (all_pB (fun g hg e => hp71 g hg e.symm))
    have hz72 := (hx68).size
    obtain ⟨x73, hy74, hF⟩ := bsome hF
    refine TL.ye rfl rfl (ye_index_own (c := C_Clock) rfl Tryd.underlying26 cn_75 rfl rfl hs62 hy74) ?_
    rintro _ ⟨g75, us77, rfl, hg76, hr78, hcl79⟩
    have hr78r := hr78
    obtain rfl := C_Clock_open hr78
    refine TL.yld rfl rfl (yld_fieldAddr rfl fo_75_3 rfl) ?_
    refine TL.eff rfl rfl (eff_store_own (c := C_Clock) (us' := [.string x73.Name, .int .i64 x73.Place, .int .i64 x73.Period, .int .i64 r65.1, .int .i64 x73.FallAt, .int .i64 x73.Source, .int .i64 x73.Divide, .bool x73.Invert, .int .i64 x73.EarlyLatency, .int .i64 x73.LateLatency, .int .i64 x73.Uncertainty]) (y' := (S_Clock.mk x73.Name x73.Place x73.Period r65.1 x73.FallAt x73.Source x73.Divide x73.Invert x73.EarlyLatency x73.LateLatency x73.Uncertainty)) 3 _ rfl rfl rfl hs62 hg76 hy74 rfl cn_2 rfl hr78r hcl79 rfl rfl C_Clock_mk (fun k h => absurd h.2 (Nat.not_lt_zero k))) ?_
    rintro _ w80 ⟨hu81, hs82⟩
    have he83 : But (pB b0_) w w80 := But.upd he70 hu81 (Or.inr (by have := hbd15 _ hg76; omega))
    have hb69 := Box.upd hb69 hu81 (by have := hbd15 _ hg76; omega)
    have ha2 := slRep.upd ha2 hu81 (by have := hbd15 _ hg76; omega)
    have hz84 := (hu81).size
    refine TL.done ?_
    refine NX.seq ?_
    obtain ⟨x85, hy86, hF⟩ := bsome hF
    obtain ⟨r92, hr93, hF⟩ := bsome hF
    obtain ⟨x100, hy101, hF⟩ := bsome hF
    refine WC.heldG (p := (pB b0_)) 10 Tryd.hm fun w112 hx113 => ?_
    have he114 : But (pB b0_) w w112 := But.ext he83 hx113
    have hb69 := Box.ext hb69 hx113
    have ha2 := slRep.old ha2 hx113 (by omega)
    have hs82 := ownR.ext hs82 hx113
    have hz115 := (hx113).size
    refine HLG.yld 0 (by kernel_rfl) rfl (by kernel_rfl) rfl rfl (fun wx hbx => (yld_move rfl rfl)) ?_
    refine HLG.yld 1 (by kernel_rfl) rfl (by kernel_rfl) rfl rfl (fun wx hbx => (yld_move rfl rfl)) ?_
    refine HLG.ya 2 (by kernel_rfl) rfl (by kernel_rfl) rfl rfl (ya_index_own (c := C_Clock) rfl Tryd.underlying26 cn_75 rfl rfl hs82 hy86) ?_
    rintro _ ⟨g116, us118, rfl, hg117, hr119, hcl120⟩
    have hr119r := hr119
    obtain rfl := C_Clock_open hr119
    refine HLG.yld 3 (by kernel_rfl) rfl (by kernel_rfl) rfl rfl (fun wx hbx => (yld_fieldAddr rfl fo_75_3 rfl)) ?_
    refine HLG.yld 4 (by kernel_rfl) rfl (by kernel_rfl) rfl rfl (fun wx hbx => (have hp121 : ∀ g, v12.ownBlock = some g → g ≠ b0_ := (fun g hg => by have := hbd15 g hg; omega); have hcl120 := CellsAt.but hcl120 hbx (all_pB ((hp121 _ hg117).symm)) (by have := hbd15 _ hg117; omega); (yld_load1 3 rfl ag_2 rfl hcl120 rfl rfl))) ?_
    refine HLG.yld 5 (by kernel_rfl) rfl (by kernel_rfl) rfl rfl (fun wx hbx => (yld_add rfl rfl rfl)) ?_
    refine HLG.yld 6 (by kernel_rfl) rfl (by kernel_rfl) rfl rfl (fun wx hbx => (yld_move rfl rfl)) ?_
    refine HLG.eff 7 rfl rfl (by kernel_rfl) rfl rfl (eff_call rfl gf_71 rfl (W_spec_l01Next hr93 hb69 ha2 (by omega) (by omega))) ?_
    rintro _ w122 ⟨rfl, hb124, hx123⟩
    have he125 : But (pB b0_) w w122 := But.but he114 hx123 (all_pB (Or.inl rfl))
    have ha2 := slRep.but ha2 hx123 (all_pB (by omega)) (by omega)
    have hp126 : ∀ g, v12.ownBlock = some g → g ≠ b0_ := (fun g hg => by have := hbd15 g hg; omega)
    have hs82 := ownR.butF hs82 hx123 (all_pB (fun g hg e => hp126 g hg e.symm))
    have hz127 := (hx123).size
    have hbs128 : But (pB b0_) w112 w122 := (But.but (But.refl _ w112) hx123 (all_pB (Or.inl rfl)))
    refine ⟨hbs128, ?_⟩
    refine HLG.yld 8 (by kernel_rfl) rfl (by kernel_rfl) rfl rfl (fun wx hbx => (yld_add rfl rfl rfl)) ?_
    refine HLG.yld 9 (by kernel_rfl) rfl (by kernel_rfl) rfl rfl (fun wx hbx => (yld_rem rfl rfl rfl (by decide))) ?_
    refine HLG.tail rfl (by kernel_rfl) rfl ?_
    refine TL.ye rfl rfl (ye_index_own (c := C_Clock) rfl Tryd.underlying26 cn_75 rfl rfl hs82 hy101) ?_
    rintro _ ⟨g129, us131, rfl, hg130, hr132, hcl133⟩
    have hr132r := hr132
    obtain rfl := C_Clock_open hr132
    refine TL.yld rfl rfl (yld_fieldAddr rfl fo_75_4 rfl) ?_
    refine TL.eff rfl rfl (eff_store_own (c := C_Clock) (us' := [.string x100.Name, .int .i64 x100.Place, .int .i64 x100.Period, .int .i64 x100.RiseAt, .int .i64 (Int.tmod (IntKind.wrap IntKind.i64 ((IntKind.wrap IntKind.i64 (x85.RiseAt + 1)) + r92.1)) 24), .int .i64 x100.Source, .int .i64 x100.Divide, .bool x100.Invert, .int .i64 x100.EarlyLatency, .int .i64 x100.LateLatency, .int .i64 x100.Uncertainty]) (y' := (S_Clock.mk x100.Name x100.Place x100.Period x100.RiseAt (Int.tmod (IntKind.wrap IntKind.i64 ((IntKind.wrap IntKind.i64 (x85.RiseAt + 1)) + r92.1)) 24) x100.Source x100.Divide x100.Invert x100.EarlyLatency x100.LateLatency x100.Uncertainty)) 4 _ rfl rfl rfl hs82 hg130 hy101 rfl cn_2 rfl hr132r hcl133 rfl rfl C_Clock_mk (fun k h => absurd h.2 (Nat.not_lt_zero k))) ?_
    rintro _ w134 ⟨hu135, hs136⟩
    have he137 : But (pB b0_) w w134 := But.upd he125 hu135 (Or.inr (by have := hbd15 _ hg130; omega))
    have hb124 := Box.upd hb124 hu135 (by have := hbd15 _ hg130; omega)
    have ha2 := slRep.upd ha2 hu135 (by have := hbd15 _ hg130; omega)
    have hz138 := (hu135).size
    refine TL.noPan (l := []) ?_
    refine NX.seq ?_
    refine WC.seq ?_
    refine WC.seq ?_
    refine WC.region ?_
    refine TL.yld rfl rfl (yld_move rfl rfl) ?_
    obtain ⟨r139, hr140, hF⟩ := bsome hF
    refine TL.eff rfl rfl (eff_call rfl gf_71 rfl (W_spec_l01Next hr140 hb124 ha2 (by omega) (by omega))) ?_
    rintro _ w141 ⟨rfl, hb143, hx142⟩
    have he144 : But (pB b0_) w w141 := But.but he137 hx142 (all_pB (Or.inl rfl))
    have ha2 := slRep.but ha2 hx142 (all_pB (by omega)) (by omega)
    have hp145 : ∀ g, v12.ownBlock = some g → g ≠ b0_ := (fun g hg => by have := hbd15 g hg; omega)
    have hs136 := ownR.butF hs136 hx142 (all_pB (fun g hg e => hp145 g hg e.symm))
    have hz146 := (hx142).size
    refine TL.yld rfl rfl (yld_eql rfl rfl rfl) ?_
    refine TL.done ?_
    refine NX.seq ?_
    refine WC.cond rfl ?_ ?_
    · intro hc147
      replace hF := bif_t hc147 hF
      refine WC.seq ?_
      refine WC.region ?_
      refine TL.yld rfl rfl (yld_build (uss := [(0, [.string ((ByteArray.mk #[97]))]), (2, [.int .i64 2]), (4, [.int .i64 1]), (5, [.int .i64 (-1)]), (6, [.int .i64 1])]) (out := [.string ((ByteArray.mk #[97])), .int .i64 0, .int .i64 2, .int .i64 0, .int .i64 1, .int .i64 (-1), .int .i64 1, .bool false, .int .i64 0, .int .i64 0, .int .i64 0]) rfl rfl zn_75 pl_75 rfl rfl) ?_
      refine TL.yld rfl rfl (yld_build (uss := [(0, [.string ((ByteArray.mk #[98]))]), (5, [.int .i64 0]), (6, [.int .i64 8])]) (out := [.string ((ByteArray.mk #[98])), .int .i64 0, .int .i64 0, .int .i64 0, .int .i64 0, .int .i64 0, .int .i64 8, .bool false, .int .i64 0, .int .i64 0, .int .i64 0]) rfl rfl zn_75 pl_75 rfl rfl) ?_
      refine TL.yld rfl rfl (yld_build (uss := [(0, [.string ((ByteArray.mk #[99]))]), (5, [.int .i64 1]), (6, [.int .i64 8])]) (out := [.string ((ByteArray.mk #[99])), .int .i64 0, .int .i64 0, .int .i64 0, .int .i64 0, .int .i64 1, .int .i64 8, .bool false, .int .i64 0, .int .i64 0, .int .i64 0]) rfl rfl zn_75 pl_75 rfl rfl) ?_
      refine TL.yld rfl rfl (yld_build (uss := [(0, [.string ((ByteArray.mk #[100]))]), (5, [.int .i64 2]), (6, [.int .i64 7])]) (out := [.string ((ByteArray.mk #[100])), .int .i64 0, .int .i64 0, .int .i64 0, .int .i64 0, .int .i64 2, .int .i64 7, .bool false, .int .i64 0, .int .i64 0, .int .i64 0]) rfl rfl zn_75 pl_75 rfl rfl) ?_
      refine TL.eff rfl rfl (eff_buildSlice (c := C_Clock) (xs := [(S_Clock.mk ((ByteArray.mk #[97])) 0 2 0 1 (-1) 1 false 0 0 0), (S_Clock.mk ((ByteArray.mk #[98])) 0 0 0 0 0 8 false 0 0 0), (S_Clock.mk ((ByteArray.mk #[99])) 0 0 0 0 1 8 false 0 0 0), (S_Clock.mk ((ByteArray.mk #[100])) 0 0 0 0 2 7 false 0 0 0)]) (S := (Iv 0 0)) (uss := [(0, [.string ((ByteArray.mk #[97])), .int .i64 0, .int .i64 2, .int .i64 0, .int .i64 1, .int .i64 (-1), .int .i64 1, .bool false, .int .i64 0, .int .i64 0, .int .i64 0]), (1, [.string ((ByteArray.mk #[98])), .int .i64 0, .int .i64 0, .int .i64 0, .int .i64 0, .int .i64 0, .int .i64 8, .bool false, .int .i64 0, .int .i64 0, .int .i64 0]), (2, [.string ((ByteArray.mk #[99])), .int .i64 0, .int .i64 0, .int .i64 0, .int .i64 0, .int .i64 1, .int .i64 8, .bool false, .int .i64 0, .int .i64 0, .int .i64 0]), (3, [.string ((ByteArray.mk #[100])), .int .i64 0, .int .i64 0, .int .i64 0, .int .i64 0, .int .i64 2, .int .i64 7, .bool false, .int .i64 0, .int .i64 0, .int .i64 0])]) (out := [.string ((ByteArray.mk #[97])), .int .i64 0, .int .i64 2, .int .i64 0, .int .i64 1, .int .i64 (-1), .int .i64 1, .bool false, .int .i64 0, .int .i64 0, .int .i64 0, .string ((ByteArray.mk #[98])), .int .i64 0, .int .i64 0, .int .i64 0, .int .i64 0, .int .i64 0, .int .i64 8, .bool false, .int .i64 0, .int .i64 0, .int .i64 0, .string ((ByteArray.mk #[99])), .int .i64 0, .int .i64 0, .int .i64 0, .int .i64 0, .int .i64 1, .int .i64 8, .bool false, .int .i64 0, .int .i64 0, .int .i64 0, .string ((ByteArray.mk #[100])), .int .i64 0, .int .i64 0, .int .i64 0, .int .i64 0, .int .i64 2, .int .i64 7, .bool false, .int .i64 0, .int .i64 0, .int .i64 0]) rfl Tryd.underlying26 in_75 rfl rfl (fillL_all [[.string ((ByteArray.mk #[97])), .int .i64 0, .int .i64 2, .int .i64 0, .int .i64 1, .int .i64 (-1), .int .i64 1, .bool false, .int .i64 0, .int .i64 0, .int .i64 0], [.string ((ByteArray.mk #[98])), .int .i64 0, .int .i64 0, .int .i64 0, .int .i64 0, .int .i64 0, .int .i64 8, .bool false, .int .i64 0, .int .i64 0, .int .i64 0], [.string ((ByteArray.mk #[99])), .int .i64 0, .int .i64 0, .int .i64 0, .int .i64 0, .int .i64 1, .int .i64 8, .bool false, .int .i64 0, .int .i64 0, .int .i64 0], [.string ((ByteArray.mk #[100])), .int .i64 0, .int .i64 0, .int .i64 0, .int .i64 0, .int .i64 2, .int .i64 7, .bool false, .int .i64 0, .int .i64 0, .int .i64 0]] rfl rfl rfl) rfl rfl rfl rfl (one_rep (uss := [[.string ((ByteArray.mk #[97])), .int .i64 0, .int .i64 2, .int .i64 0, .int .i64 1, .int .i64 (-1), .int .i64 1, .bool false, .int .i64 0, .int .i64 0, .int .i64 0], [.string ((ByteArray.mk #[98])), .int .i64 0, .int .i64 0, .int .i64 0, .int .i64 0, .int .i64 0, .int .i64 8, .bool false, .int .i64 0, .int .i64 0, .int .i64 0], [.string ((ByteArray.mk #[99])), .int .i64 0, .int .i64 0, .int .i64 0, .int .i64 0, .int .i64 1, .int .i64 8, .bool false, .int .i64 0, .int .i64 0, .int .i64 0], [.string ((ByteArray.mk #[100])), .int .i64 0, .int .i64 0, .int .i64 0, .int .i64 0, .int .i64 2, .int .i64 7, .bool false, .int .i64 0, .int .i64 0, .int .i64 0]]) (show reps _ _ _ _ _ from ⟨C_Clock_mk, C_Clock_mk, C_Clock_mk, C_Clock_mk, trivial⟩) rfl) (fun k h => by have := h.2; omega) rfl) ?_
      rintro v148 w149 ⟨g150, hv151, hg152, hz153, hx154, hs155⟩
      have he156 : But (pB b0_) w w149 := But.ext he144 hx154
      have hb143 := Box.ext hb143 hx154
      have ha2 := slRep.old ha2 hx154 (by omega)
      have hs136 := ownR.ext hs136 hx154
      have hz157 := (hx154).size
      have hlo158 : w.heap.size ≤ g150 := by rw [hg152]; exact (he144).size
      have hbd159 := bd_of hv151
      clear hv151
      refine TL.yld rfl rfl (yld_assign rfl rfl) ?_
      refine TL.done ?_
      refine NX.seq ?_
      refine WC.seq ?_
      refine WC.region ?_
      refine TL.yld rfl rfl (yld_assign rfl rfl) ?_
      refine TL.done ?_
      refine NX.seq ?_
      refine WC.region ?_
      refine TL.yld rfl rfl (yld_move rfl rfl) ?_
      obtain ⟨r161, hr162, hF⟩ := bsome hF
      refine TL.eff rfl rfl (eff_call rfl gf_71 rfl (W_spec_l01Next hr162 hb143 ha2 (by omega) (by omega))) ?_
      rintro _ w163 ⟨rfl, hb165, hx164⟩
      have he166 : But (pB b0_) w w163 := But.but he156 hx164 (all_pB (Or.inl rfl))
      have ha2 := slRep.but ha2 hx164 (all_pB (by omega)) (by omega)
      have hp167 : ∀ g, v12.ownBlock = some g → g ≠ b0_ := (fun g hg => by have := hbd15 g hg; omega)
      have hs136 := ownR.butF hs136 hx164 (all_pB (fun g hg e => hp167 g hg e.symm))
      have hp168 : ∀ g, v148.ownBlock = some g → g ≠ b0_ := (fun g hg => by have := hbd159 g hg; omega)
      have hs155 := ownR.butF hs155 hx164 (all_pB (fun g hg e => hp168 g hg e.symm))
      have hz169 := (hx164).size
      refine TL.yld rfl rfl (yld_assign rfl rfl) ?_
      refine TL.done ?_
      refine NX.seq ?_
      refine WC.seq ?_
      refine WC.region ?_
      refine TL.yld rfl rfl (yld_move rfl rfl) ?_
      refine TL.yld rfl rfl (yld_move rfl rfl) ?_
      refine TL.yld rfl rfl (yld_move rfl rfl) ?_
      obtain ⟨r170, hr171, hF⟩ := bsome hF
      refine TL.eff rfl rfl (eff_call rfl gf_100 rfl (W_spec_l14DrawEdge hr171 hb165 ha2 (by omega) (by omega))) ?_
      rintro _ w172 ⟨rfl, hb174, hx173⟩
      have he175 : But (pB b0_) w w172 := But.but he166 hx173 (all_pB (Or.inl rfl))
      have ha2 := slRep.but ha2 hx173 (all_pB (by omega)) (by omega)
      have hp176 : ∀ g, v12.ownBlock = some g → g ≠ b0_ := (fun g hg => by have := hbd15 g hg; omega)
      have hs136 := ownR.butF hs136 hx173 (all_pB (fun g hg e => hp176 g hg e.symm))
      have hp177 : ∀ g, v148.ownBlock = some g → g ≠ b0_ := (fun g hg => by have := hbd159 g hg; omega)
      have hs155 := ownR.butF hs155 hx173 (all_pB (fun g hg e => hp177 g hg e.symm))
      have hz178 := (hx173).size
      refine TL.yld rfl rfl (yld_move rfl rfl) ?_
      refine TL.yld rfl rfl (yld_move rfl rfl) ?_
      obtain ⟨r179, hr180, hF⟩ := bsome hF
      refine TL.eff rfl rfl (eff_call rfl gf_100 rfl (W_spec_l14DrawEdge hr180 hb174 ha2 (by omega) (by omega))) ?_
      rintro _ w181 ⟨rfl, hb183, hx182⟩
      have he184 : But (pB b0_) w w181 := But.but he175 hx182 (all_pB (Or.inl rfl))
      have ha2 := slRep.but ha2 hx182 (all_pB (by omega)) (by omega)
      have hp185 : ∀ g, v12.ownBlock = some g → g ≠ b0_ := (fun g hg => by have := hbd15 g hg; omega)
      have hs136 := ownR.butF hs136 hx182 (all_pB (fun g hg e => hp185 g hg e.symm))
      have hp186 : ∀ g, v148.ownBlock = some g → g ≠ b0_ := (fun g hg => by have := hbd159 g hg; omega)
      have hs155 := ownR.butF hs155 hx182 (all_pB (fun g hg e => hp186 g hg e.symm))
      have hz187 := (hx182).size
      refine TL.yld rfl rfl (yld_assign rfl rfl) ?_
      refine TL.yld rfl rfl (yld_assign rfl rfl) ?_
      refine TL.yld rfl rfl (yld_assign rfl rfl) ?_
      refine TL.yld rfl rfl (yld_assign rfl rfl) ?_
      refine TL.yld rfl rfl (yld_assign rfl rfl) ?_
      refine TL.done ?_
      refine NX.seq ?_
      refine WC.ret' ?_
      obtain rfl := Option.some.inj hF
      exact NX.end (rs := [.tmp 2, .tmp 3, .tmp 4, .tmp 5, .tmp 6]) (vs := [v148, .int .i64 0, .int .i64 r170.1, .int .i64 r161.1, .int .i64 r179.1]) rfl ⟨rfl, rfl, rfl, rfl, rfl, trivial⟩ ⟨_, rfl, _, rfl, ownR.base hs155 (by omega), hb183, he184⟩
    · intro hc188
      replace hF := bif_f hc188 hF
      refine WC.skip' ?_
      refine NX.seq ?_
      refine WC.seq ?_
      refine WC.region ?_
      refine TL.yld rfl rfl (yld_move rfl rfl) ?_
      refine TL.yld rfl rfl (yld_move rfl rfl) ?_
      refine TL.yld rfl rfl (yld_move rfl rfl) ?_
      obtain ⟨r189, hr190, hF⟩ := bsome hF
      refine TL.eff rfl rfl (eff_call rfl gf_100 rfl (W_spec_l14DrawEdge hr190 hb143 ha2 (by omega) (by omega))) ?_
      rintro _ w191 ⟨rfl, hb193, hx192⟩
      have he194 : But (pB b0_) w w191 := But.but he144 hx192 (all_pB (Or.inl rfl))
      have ha2 := slRep.but ha2 hx192 (all_pB (by omega)) (by omega)
      have hp195 : ∀ g, v12.ownBlock = some g → g ≠ b0_ := (fun g hg => by have := hbd15 g hg; omega)
      have hs136 := ownR.butF hs136 hx192 (all_pB (fun g hg e => hp195 g hg e.symm))
      have hz196 := (hx192).size
      refine TL.yld rfl rfl (yld_move rfl rfl) ?_
      refine TL.yld rfl rfl (yld_move rfl rfl) ?_
      obtain ⟨r197, hr198, hF⟩ := bsome hF
      refine TL.eff rfl rfl (eff_call rfl gf_100 rfl (W_spec_l14DrawEdge hr198 hb193 ha2 (by omega) (by omega))) ?_
      rintro _ w199 ⟨rfl, hb201, hx200⟩
      have he202 : But (pB b0_) w w199 := But.but he194 hx200 (all_pB (Or.inl rfl))
      have ha2 := slRep.but ha2 hx200 (all_pB (by omega)) (by omega)
      have hp203 : ∀ g, v12.ownBlock = some g → g ≠ b0_ := (fun g hg => by have := hbd15 g hg; omega)
      have hs136 := ownR.butF hs136 hx200 (all_pB (fun g hg e => hp203 g hg e.symm))
      have hz204 := (hx200).size
      refine TL.yld rfl rfl (yld_assign rfl rfl) ?_
      refine TL.yld rfl rfl (yld_assign rfl rfl) ?_
      refine TL.yld rfl rfl (yld_assign rfl rfl) ?_
      refine TL.yld rfl rfl (yld_assign rfl rfl) ?_
      refine TL.yld rfl rfl (yld_assign rfl rfl) ?_
      refine TL.done ?_
      refine NX.seq ?_
      refine WC.ret' ?_
      obtain rfl := Option.some.inj hF
      exact NX.end (rs := [.tmp 2, .tmp 3, .tmp 4, .tmp 5, .tmp 6]) (vs := [v12, .int .i64 r19.1, .int .i64 r189.1, .int .i64 r27.1, .int .i64 r197.1]) rfl ⟨rfl, rfl, rfl, rfl, rfl, trivial⟩ ⟨_, rfl, _, rfl, ownR.base hs136 (by omega), hb201, he202⟩
  · intro hc205
    replace hF := bif_f hc205 hF
    refine WC.skip' ?_
    refine NX.seq ?_
    refine WC.seq ?_
    refine WC.seq ?_
    refine WC.region ?_
    refine TL.yld rfl rfl (yld_move rfl rfl) ?_
    obtain ⟨r206, hr207, hF⟩ := bsome hF
    refine TL.eff rfl rfl (eff_call rfl gf_71 rfl (W_spec_l01Next hr207 hb48 ha2 (by omega) (by omega))) ?_
    rintro _ w208 ⟨rfl, hb210, hx209⟩
    have he211 : But (pB b0_) w w208 := But.but he49 hx209 (all_pB (Or.inl rfl))
    have ha2 := slRep.but ha2 hx209 (all_pB (by omega)) (by omega)
    have hp212 : ∀ g, v12.ownBlock = some g → g ≠ b0_ := (fun g hg => by have := hbd15 g hg; omega)
    have hs13 := ownR.butF hs13 hx209 (all_pB (fun g hg e => hp212 g hg e.symm))
    have hz213 := (hx209).size
    refine TL.yld rfl rfl (yld_eql rfl rfl rfl) ?_
    refine TL.done ?_
    refine NX.seq ?_
    refine WC.cond rfl ?_ ?_
    · intro hc214
      replace hF := bif_t hc214 hF
      refine WC.seq ?_
      refine WC.region ?_
      refine TL.yld rfl rfl (yld_build (uss := [(0, [.string ((ByteArray.mk #[97]))]), (2, [.int .i64 2]), (4, [.int .i64 1]), (5, [.int .i64 (-1)]), (6, [.int .i64 1])]) (out := [.string ((ByteArray.mk #[97])), .int .i64 0, .int .i64 2, .int .i64 0, .int .i64 1, .int .i64 (-1), .int .i64 1, .bool false, .int .i64 0, .int .i64 0, .int .i64 0]) rfl rfl zn_75 pl_75 rfl rfl) ?_
      refine TL.yld rfl rfl (yld_build (uss := [(0, [.string ((ByteArray.mk #[98]))]), (5, [.int .i64 0]), (6, [.int .i64 8])]) (out := [.string ((ByteArray.mk #[98])), .int .i64 0, .int .i64 0, .int .i64 0, .int .i64 0, .int .i64 0, .int .i64 8, .bool false, .int .i64 0, .int .i64 0, .int .i64 0]) rfl rfl zn_75 pl_75 rfl rfl) ?_
      refine TL.yld rfl rfl (yld_build (uss := [(0, [.string ((ByteArray.mk #[99]))]), (5, [.int .i64 1]), (6, [.int .i64 8])]) (out := [.string ((ByteArray.mk #[99])), .int .i64 0, .int .i64 0, .int .i64 0, .int .i64 0, .int .i64 1, .int .i64 8, .bool false, .int .i64 0, .int .i64 0, .int .i64 0]) rfl rfl zn_75 pl_75 rfl rfl) ?_
      refine TL.yld rfl rfl (yld_build (uss := [(0, [.string ((ByteArray.mk #[100]))]), (5, [.int .i64 2]), (6, [.int .i64 7])]) (out := [.string ((ByteArray.mk #[100])), .int .i64 0, .int .i64 0, .int .i64 0, .int .i64 0, .int .i64 2, .int .i64 7, .bool false, .int .i64 0, .int .i64 0, .int .i64 0]) rfl rfl zn_75 pl_75 rfl rfl) ?_
      refine TL.eff rfl rfl (eff_buildSlice (c := C_Clock) (xs := [(S_Clock.mk ((ByteArray.mk #[97])) 0 2 0 1 (-1) 1 false 0 0 0), (S_Clock.mk ((ByteArray.mk #[98])) 0 0 0 0 0 8 false 0 0 0), (S_Clock.mk ((ByteArray.mk #[99])) 0 0 0 0 1 8 false 0 0 0), (S_Clock.mk ((ByteArray.mk #[100])) 0 0 0 0 2 7 false 0 0 0)]) (S := (Iv 0 0)) (uss := [(0, [.string ((ByteArray.mk #[97])), .int .i64 0, .int .i64 2, .int .i64 0, .int .i64 1, .int .i64 (-1), .int .i64 1, .bool false, .int .i64 0, .int .i64 0, .int .i64 0]), (1, [.string ((ByteArray.mk #[98])), .int .i64 0, .int .i64 0, .int .i64 0, .int .i64 0, .int .i64 0, .int .i64 8, .bool false, .int .i64 0, .int .i64 0, .int .i64 0]), (2, [.string ((ByteArray.mk #[99])), .int .i64 0, .int .i64 0, .int .i64 0, .int .i64 0, .int .i64 1, .int .i64 8, .bool false, .int .i64 0, .int .i64 0, .int .i64 0]), (3, [.string ((ByteArray.mk #[100])), .int .i64 0, .int .i64 0, .int .i64 0, .int .i64 0, .int .i64 2, .int .i64 7, .bool false, .int .i64 0, .int .i64 0, .int .i64 0])]) (out := [.string ((ByteArray.mk #[97])), .int .i64 0, .int .i64 2, .int .i64 0, .int .i64 1, .int .i64 (-1), .int .i64 1, .bool false, .int .i64 0, .int .i64 0, .int .i64 0, .string ((ByteArray.mk #[98])), .int .i64 0, .int .i64 0, .int .i64 0, .int .i64 0, .int .i64 0, .int .i64 8, .bool false, .int .i64 0, .int .i64 0, .int .i64 0, .string ((ByteArray.mk #[99])), .int .i64 0, .int .i64 0, .int .i64 0, .int .i64 0, .int .i64 1, .int .i64 8, .bool false, .int .i64 0, .int .i64 0, .int .i64 0, .string ((ByteArray.mk #[100])), .int .i64 0, .int .i64 0, .int .i64 0, .int .i64 0, .int .i64 2, .int .i64 7, .bool false, .int .i64 0, .int .i64 0, .int .i64 0]) rfl Tryd.underlying26 in_75 rfl rfl (fillL_all [[.string ((ByteArray.mk #[97])), .int .i64 0, .int .i64 2, .int .i64 0, .int .i64 1, .int .i64 (-1), .int .i64 1, .bool false, .int .i64 0, .int .i64 0, .int .i64 0], [.string ((ByteArray.mk #[98])), .int .i64 0, .int .i64 0, .int .i64 0, .int .i64 0, .int .i64 0, .int .i64 8, .bool false, .int .i64 0, .int .i64 0, .int .i64 0], [.string ((ByteArray.mk #[99])), .int .i64 0, .int .i64 0, .int .i64 0, .int .i64 0, .int .i64 1, .int .i64 8, .bool false, .int .i64 0, .int .i64 0, .int .i64 0], [.string ((ByteArray.mk #[100])), .int .i64 0, .int .i64 0, .int .i64 0, .int .i64 0, .int .i64 2, .int .i64 7, .bool false, .int .i64 0, .int .i64 0, .int .i64 0]] rfl rfl rfl) rfl rfl rfl rfl (one_rep (uss := [[.string ((ByteArray.mk #[97])), .int .i64 0, .int .i64 2, .int .i64 0, .int .i64 1, .int .i64 (-1), .int .i64 1, .bool false, .int .i64 0, .int .i64 0, .int .i64 0], [.string ((ByteArray.mk #[98])), .int .i64 0, .int .i64 0, .int .i64 0, .int .i64 0, .int .i64 0, .int .i64 8, .bool false, .int .i64 0, .int .i64 0, .int .i64 0], [.string ((ByteArray.mk #[99])), .int .i64 0, .int .i64 0, .int .i64 0, .int .i64 0, .int .i64 1, .int .i64 8, .bool false, .int .i64 0, .int .i64 0, .int .i64 0], [.string ((ByteArray.mk #[100])), .int .i64 0, .int .i64 0, .int .i64 0, .int .i64 0, .int .i64 2, .int .i64 7, .bool false, .int .i64 0, .int .i64 0, .int .i64 0]]) (show reps _ _ _ _ _ from ⟨C_Clock_mk, C_Clock_mk, C_Clock_mk, C_Clock_mk, trivial⟩) rfl) (fun k h => by have := h.2; omega) rfl) ?_
      rintro v215 w216 ⟨g217, hv218, hg219, hz220, hx221, hs222⟩
      have he223 : But (pB b0_) w w216 := But.ext he211 hx221
      have hb210 := Box.ext hb210 hx221
      have ha2 := slRep.old ha2 hx221 (by omega)
      have hs13 := ownR.ext hs13 hx221
      have hz224 := (hx221).size
      have hlo225 : w.heap.size ≤ g217 := by rw [hg219]; exact (he211).size
      have hbd226 := bd_of hv218
      clear hv218
      refine TL.yld rfl rfl (yld_assign rfl rfl) ?_
      refine TL.done ?_
      refine NX.seq ?_
      refine WC.seq ?_
      refine WC.region ?_
      refine TL.yld rfl rfl (yld_assign rfl rfl) ?_
      refine TL.done ?_
      refine NX.seq ?_
      refine WC.region ?_
      refine TL.yld rfl rfl (yld_move rfl rfl) ?_
      obtain ⟨r228, hr229, hF⟩ := bsome hF
      refine TL.eff rfl rfl (eff_call rfl gf_71 rfl (W_spec_l01Next hr229 hb210 ha2 (by omega) (by omega))) ?_
      rintro _ w230 ⟨rfl, hb232, hx231⟩
      have he233 : But (pB b0_) w w230 := But.but he223 hx231 (all_pB (Or.inl rfl))
      have ha2 := slRep.but ha2 hx231 (all_pB (by omega)) (by omega)
      have hp234 : ∀ g, v12.ownBlock = some g → g ≠ b0_ := (fun g hg => by have := hbd15 g hg; omega)
      have hs13 := ownR.butF hs13 hx231 (all_pB (fun g hg e => hp234 g hg e.symm))
      have hp235 : ∀ g, v215.ownBlock = some g → g ≠ b0_ := (fun g hg => by have := hbd226 g hg; omega)
      have hs222 := ownR.butF hs222 hx231 (all_pB (fun g hg e => hp235 g hg e.symm))
      have hz236 := (hx231).size
      refine TL.yld rfl rfl (yld_assign rfl rfl) ?_
      refine TL.done ?_
      refine NX.seq ?_
      refine WC.seq ?_
      refine WC.region ?_
      refine TL.yld rfl rfl (yld_move rfl rfl) ?_
      refine TL.yld rfl rfl (yld_move rfl rfl) ?_
      refine TL.yld rfl rfl (yld_move rfl rfl) ?_
      obtain ⟨r237, hr238, hF⟩ := bsome hF
      refine TL.eff rfl rfl (eff_call rfl gf_100 rfl (W_spec_l14DrawEdge hr238 hb232 ha2 (by omega) (by omega))) ?_
      rintro _ w239 ⟨rfl, hb241, hx240⟩
      have he242 : But (pB b0_) w w239 := But.but he233 hx240 (all_pB (Or.inl rfl))
      have ha2 := slRep.but ha2 hx240 (all_pB (by omega)) (by omega)
      have hp243 : ∀ g, v12.ownBlock = some g → g ≠ b0_ := (fun g hg => by have := hbd15 g hg; omega)
      have hs13 := ownR.butF hs13 hx240 (all_pB (fun g hg e => hp243 g hg e.symm))
      have hp244 : ∀ g, v215.ownBlock = some g → g ≠ b0_ := (fun g hg => by have := hbd226 g hg; omega)
      have hs222 := ownR.butF hs222 hx240 (all_pB (fun g hg e => hp244 g hg e.symm))
      have hz245 := (hx240).size
      refine TL.yld rfl rfl (yld_move rfl rfl) ?_
      refine TL.yld rfl rfl (yld_move rfl rfl) ?_
      obtain ⟨r246, hr247, hF⟩ := bsome hF
      refine TL.eff rfl rfl (eff_call rfl gf_100 rfl (W_spec_l14DrawEdge hr247 hb241 ha2 (by omega) (by omega))) ?_
      rintro _ w248 ⟨rfl, hb250, hx249⟩
      have he251 : But (pB b0_) w w248 := But.but he242 hx249 (all_pB (Or.inl rfl))
      have ha2 := slRep.but ha2 hx249 (all_pB (by omega)) (by omega)
      have hp252 : ∀ g, v12.ownBlock = some g → g ≠ b0_ := (fun g hg => by have := hbd15 g hg; omega)
      have hs13 := ownR.butF hs13 hx249 (all_pB (fun g hg e => hp252 g hg e.symm))
      have hp253 : ∀ g, v215.ownBlock = some g → g ≠ b0_ := (fun g hg => by have := hbd226 g hg; omega)
      have hs222 := ownR.butF hs222 hx249 (all_pB (fun g hg e => hp253 g hg e.symm))
      have hz254 := (hx249).size
      refine TL.yld rfl rfl (yld_assign rfl rfl) ?_
      refine TL.yld rfl rfl (yld_assign rfl rfl) ?_
      refine TL.yld rfl rfl (yld_assign rfl rfl) ?_
      refine TL.yld rfl rfl (yld_assign rfl rfl) ?_
      refine TL.yld rfl rfl (yld_assign rfl rfl) ?_
      refine TL.done ?_
      refine NX.seq ?_
      refine WC.ret' ?_
      obtain rfl := Option.some.inj hF
      exact NX.end (rs := [.tmp 2, .tmp 3, .tmp 4, .tmp 5, .tmp 6]) (vs := [v215, .int .i64 0, .int .i64 r237.1, .int .i64 r228.1, .int .i64 r246.1]) rfl ⟨rfl, rfl, rfl, rfl, rfl, trivial⟩ ⟨_, rfl, _, rfl, ownR.base hs222 (by omega), hb250, he251⟩
    · intro hc255
      replace hF := bif_f hc255 hF
      refine WC.skip' ?_
      refine NX.seq ?_
      refine WC.seq ?_
      refine WC.region ?_
      refine TL.yld rfl rfl (yld_move rfl rfl) ?_
      refine TL.yld rfl rfl (yld_move rfl rfl) ?_
      refine TL.yld rfl rfl (yld_move rfl rfl) ?_
      obtain ⟨r256, hr257, hF⟩ := bsome hF
      refine TL.eff rfl rfl (eff_call rfl gf_100 rfl (W_spec_l14DrawEdge hr257 hb210 ha2 (by omega) (by omega))) ?_
      rintro _ w258 ⟨rfl, hb260, hx259⟩
      have he261 : But (pB b0_) w w258 := But.but he211 hx259 (all_pB (Or.inl rfl))
      have ha2 := slRep.but ha2 hx259 (all_pB (by omega)) (by omega)
      have hp262 : ∀ g, v12.ownBlock = some g → g ≠ b0_ := (fun g hg => by have := hbd15 g hg; omega)
      have hs13 := ownR.butF hs13 hx259 (all_pB (fun g hg e => hp262 g hg e.symm))
      have hz263 := (hx259).size
      refine TL.yld rfl rfl (yld_move rfl rfl) ?_
      refine TL.yld rfl rfl (yld_move rfl rfl) ?_
      obtain ⟨r264, hr265, hF⟩ := bsome hF
      refine TL.eff rfl rfl (eff_call rfl gf_100 rfl (W_spec_l14DrawEdge hr265 hb260 ha2 (by omega) (by omega))) ?_
      rintro _ w266 ⟨rfl, hb268, hx267⟩
      have he269 : But (pB b0_) w w266 := But.but he261 hx267 (all_pB (Or.inl rfl))
      have ha2 := slRep.but ha2 hx267 (all_pB (by omega)) (by omega)
      have hp270 : ∀ g, v12.ownBlock = some g → g ≠ b0_ := (fun g hg => by have := hbd15 g hg; omega)
      have hs13 := ownR.butF hs13 hx267 (all_pB (fun g hg e => hp270 g hg e.symm))
      have hz271 := (hx267).size
      refine TL.yld rfl rfl (yld_assign rfl rfl) ?_
      refine TL.yld rfl rfl (yld_assign rfl rfl) ?_
      refine TL.yld rfl rfl (yld_assign rfl rfl) ?_
      refine TL.yld rfl rfl (yld_assign rfl rfl) ?_
      refine TL.yld rfl rfl (yld_assign rfl rfl) ?_
      refine TL.done ?_
      refine NX.seq ?_
      refine WC.ret' ?_
      obtain rfl := Option.some.inj hF
      exact NX.end (rs := [.tmp 2, .tmp 3, .tmp 4, .tmp 5, .tmp 6]) (vs := [v12, .int .i64 r19.1, .int .i64 r256.1, .int .i64 r27.1, .int .i64 r264.1]) rfl ⟨rfl, rfl, rfl, rfl, rfl, trivial⟩ ⟨_, rfl, _, rfl, ownR.base hs13 (by omega), hb268, he269⟩

-- loop.example/g00861/spec.DrawSetupSeparation
def F_spec_DrawSetupSeparation (n : Nat) (a0_code : List Int) : Option ((List S_Clock) × Int × Int × Int × Int) := (Option.bind (F_spec_l01From n a0_code) fun r3 => (Option.bind (F_spec_l15DrawPair n ((S_l01Source.mk a0_code r3.at_ r3.seed_))) fun r12 => (some (r12.1, r12.2.1, r12.2.2.1, r12.2.2.2.1, r12.2.2.2.2.1))))
set_option maxHeartbeats 40000000 in
theorem W_spec_DrawSetupSeparation {n : Nat} {a0_code : List Int} {r : (List S_Clock) × Int × Int × Int × Int} {w : World} {v1 : Value} (hF : F_spec_DrawSetupSeparation n a0_code = some r) (ha2 : slRep (cInt .u8) w (Iv 0 w.heap.size) a0_code v1) :
    Calls Tryd.prog 29 [v1].toArray w (Ret fun u w2 => ∃ v0_0, u = .tuple #[v0_0, .int .i64 r.2.1, .int .i64 r.2.2.1, .int .i64 r.2.2.2.1, .int .i64 r.2.2.2.2] ∧ ownR C_Clock w2 w.heap.size (Iv 0 0) 75 r.1 v0_0 ∧ Ext w w2) := by
  refine calls_of Tryd.func29 rfl Tryd.ntmps29 ?_
  have he0 : Ext w w := Ext.refl w
  unfold F_spec_DrawSetupSeparation at hF
  refine WC.seq ?_
  refine WC.region ?_
  refine TL.yld rfl rfl (yld_assign rfl rfl) ?_
  refine TL.yld rfl rfl (yld_assign rfl rfl) ?_
  refine TL.yld rfl rfl (yld_assign rfl rfl) ?_
  refine TL.yld rfl rfl (yld_assign rfl rfl) ?_
  refine TL.yld rfl rfl (yld_assign rfl rfl) ?_
  refine TL.done ?_
  refine NX.seq ?_
  refine WC.seq ?_
  refine WC.region ?_
  refine TL.yld rfl rfl (yld_move rfl rfl) ?_
  obtain ⟨r3, hr4, hF⟩ := bsome hF
  refine TL.eff rfl rfl (eff_call rfl gf_57 rfl (W_spec_l01From hr4 ((slRep.old ha2 he0 (Nat.le_refl _)).wide (Nat.le_refl _) (he0).size))) ?_
  rintro _ w5 ⟨b7, rfl, hb8, hlo9, hx6⟩
  have he10 : Ext w w5 := Ext.trans he0 hx6
  have hz11 := (hx6).size
  have := hlo9
  have := Box.lt hb8
  refine TL.yld rfl rfl (yld_assign rfl rfl) ?_
  refine TL.done ?_
  refine NX.seq ?_
  refine WC.seq ?_
  refine WC.region ?_
  refine TL.yld rfl rfl (yld_move rfl rfl) ?_
  obtain ⟨r12, hr13, hF⟩ := bsome hF
  refine TL.eff rfl rfl (eff_call rfl gf_58 rfl (W_spec_l15DrawPair hr13 hb8 (slRep.old ha2 he10 (Nat.le_refl _)) (by omega) (by omega))) ?_
  rintro _ w14 ⟨v16, rfl, hs17, hb20, hx15⟩
  have he21 : Ext w w14 := Below.trans he10 (But.below hx15 (all_pB (by omega)) (he10).size)
  have hz22 := (hx15).size
  have hbd19 := ownR.blk hs17
  refine TL.yld rfl rfl (yld_extract rfl rfl rfl) ?_
  refine TL.yld rfl rfl (yld_extract rfl rfl rfl) ?_
  refine TL.yld rfl rfl (yld_extract rfl rfl rfl) ?_
  refine TL.yld rfl rfl (yld_extract rfl rfl rfl) ?_
  refine TL.yld rfl rfl (yld_extract rfl rfl rfl) ?_
  refine TL.yld rfl rfl (yld_assign rfl rfl) ?_
  refine TL.yld rfl rfl (yld_assign rfl rfl) ?_
  refine TL.yld rfl rfl (yld_assign rfl rfl) ?_
  refine TL.yld rfl rfl (yld_assign rfl rfl) ?_
  refine TL.yld rfl rfl (yld_assign rfl rfl) ?_
  refine TL.done ?_
  refine NX.seq ?_
  refine WC.ret' ?_
  obtain rfl := Option.some.inj hF
  exact NX.end (rs := [.tmp 2, .tmp 3, .tmp 4, .tmp 5, .tmp 6]) (vs := [v16, .int .i64 r12.2.1, .int .i64 r12.2.2.1, .int .i64 r12.2.2.2.1, .int .i64 r12.2.2.2.2.1]) rfl ⟨rfl, rfl, rfl, rfl, rfl, trivial⟩ ⟨_, rfl, _, rfl, ownR.base hs17 (by omega), he21⟩

-- loop.example/g00861/impl.WaveOf
def F_impl_WaveOf (n : Nat) (a0_list : List S_Clock) (a1_k : Int) : Option (Int × Int × Int × Int) := (Option.bind (F_impl_clockCode n a0_list [a1_k]) fun r16 => (bif (r16 != 0) then (some (0, 0, 0, r16)) else (Option.bind (F_impl_waveOf n a0_list a1_k) fun r24 => (some (r24.period_, r24.edges_.e0, r24.edges_.e1, 0)))))
set_option maxHeartbeats 40000000 in
theorem W_impl_WaveOf {n : Nat} {a0_list : List S_Clock} {a1_k : Int} {r : Int × Int × Int × Int} {w : World} {v1 : Value} (hF : F_impl_WaveOf n a0_list a1_k = some r) (ha2 : slRep C_Clock w (Iv 0 w.heap.size) a0_list v1) :
    Calls Tryd.prog 30 [v1, .int .i64 a1_k].toArray w (Ret fun u w2 => u = .tuple #[.int .i64 r.1, .int .i64 r.2.1, .int .i64 r.2.2.1, .int .i64 r.2.2.2] ∧ Ext w w2) := by
  refine calls_of Tryd.func30 rfl Tryd.ntmps30 ?_
  have he0 : Ext w w := Ext.refl w
  unfold F_impl_WaveOf at hF
  refine WC.seq ?_
  refine WC.region ?_
  refine TL.yld rfl rfl (yld_assign rfl rfl) ?_
  refine TL.yld rfl rfl (yld_assign rfl rfl) ?_
  refine TL.yld rfl rfl (yld_assign rfl rfl) ?_
  refine TL.yld rfl rfl (yld_assign rfl rfl) ?_
  refine TL.done ?_
  refine NX.seq ?_
  refine WC.seq ?_
  refine WC.seq ?_
  refine WC.region ?_
  refine TL.yld rfl rfl (yld_move rfl rfl) ?_
  refine TL.yld rfl rfl (yld_move rfl rfl) ?_
  refine TL.eff rfl rfl (eff_buildSlice (c := (cInt .i64)) (xs := [a1_k]) (S := (Iv 0 0)) (uss := [(0, [.int .i64 a1_k])]) (out := [.int .i64 a1_k]) rfl Tryd.underlying42 in_2 rfl rfl (fillL_all [[.int .i64 a1_k]] rfl rfl rfl) rfl rfl rfl rfl (one_rep (uss := [[.int .i64 a1_k]]) (show reps _ _ _ _ _ from ⟨rfl, trivial⟩) rfl) (fun k h => by have := h.2; omega) rfl) ?_
  rintro v3 w4 ⟨g5, hv6, hg7, hz8, hx9, hs10⟩
  have he11 : Ext w w4 := Ext.trans he0 hx9
  have hz12 := (hx9).size
  have hlo13 : w.heap.size ≤ g5 := by rw [hg7]; exact (he0).size
  have hbd14 := bd_of hv6
  clear hv6
  obtain ⟨r16, hr17, hF⟩ := bsome hF
  refine TL.eff rfl rfl (eff_call rfl gf_60 rfl (W_impl_clockCode hr17 ((slRep.old ha2 he11 (Nat.le_refl _)).wide (Nat.le_refl _) (he11).size) (ownR.slf hs10 (Nat.zero_le _) (Nat.le_refl _)))) ?_
  rintro _ w18 ⟨rfl, hx19⟩
  have he20 : Ext w w18 := Ext.trans he11 hx19
  have hs10 := ownR.ext hs10 hx19
  have hz21 := (hx19).size
  refine TL.yld rfl rfl (yld_assign rfl rfl) ?_
  refine TL.done ?_
  refine NX.seq ?_
  refine WC.seq ?_
  refine WC.region ?_
  refine TL.yld rfl rfl (yld_move rfl rfl) ?_
  refine TL.yld rfl rfl (yld_neq rfl rfl rfl) ?_
  refine TL.done ?_
  refine NX.seq ?_
  refine WC.cond rfl ?_ ?_
  · intro hc22
    replace hF := bif_t hc22 hF
    refine WC.seq ?_
    refine WC.region ?_
    refine TL.yld rfl rfl (yld_move rfl rfl) ?_
    refine TL.yld rfl rfl (yld_assign rfl rfl) ?_
    refine TL.yld rfl rfl (yld_assign rfl rfl) ?_
    refine TL.yld rfl rfl (yld_assign rfl rfl) ?_
    refine TL.yld rfl rfl (yld_assign rfl rfl) ?_
    refine TL.done ?_
    refine NX.seq ?_
    refine WC.ret' ?_
    refine NX.then_r ?_
    obtain rfl := Option.some.inj hF
    exact NX.end (rs := [.tmp 4, .tmp 5, .tmp 6, .tmp 7]) (vs := [.int .i64 0, .int .i64 0, .int .i64 0, .int .i64 r16]) rfl ⟨rfl, rfl, rfl, rfl, trivial⟩ ⟨_, rfl, rfl, he20⟩
  · intro hc23
    replace hF := bif_f hc23 hF
    refine WC.skip' ?_
    refine NX.seq ?_
    refine WC.seq ?_
    refine WC.region ?_
    refine TL.yld rfl rfl (yld_move rfl rfl) ?_
    refine TL.yld rfl rfl (yld_move rfl rfl) ?_
    obtain ⟨r24, hr25, hF⟩ := bsome hF
    refine TL.eff rfl rfl (eff_call rfl gf_64 rfl (W_impl_waveOf hr25 ((slRep.old ha2 he20 (Nat.le_refl _)).wide (Nat.le_refl _) (he20).size))) ?_
    rintro _ w26 ⟨rfl, hx27⟩
    have he28 : Ext w w26 := Ext.trans he20 hx27
    have hs10 := ownR.ext hs10 hx27
    have hz29 := (hx27).size
    refine TL.eff rfl rfl (eff_alloc rfl zn_84) ?_
    rintro _ w31 ⟨b30, rfl, hn32⟩
    obtain ⟨hn32e, hn32s, hn32x, hb33⟩ := hn32
    have hb33 : Box w31 b30 [.int .i64 0, .int .i64 0, .int .i64 0] 84 := hb33
    have he35 : Ext w w31 := Ext.trans he28 hn32x
    have hs10 := ownR.ext hs10 hn32x
    have hz36 := (hn32x).size
    have hlo34 : w.heap.size ≤ b30 := by rw [hn32e]; exact (he28).size
    refine TL.eff rfl rfl (eff_store rfl rfl rfl hb33 cn_84 rfl rfl) ?_
    rintro _ w37 ⟨hu38, hb39⟩
    have he40 : Ext w w37 := Below.trans he35 (Upd.below hu38 (by omega))
    have hs10 := ownR.upd hs10 hu38 (fun g hg => by have := hbd14 g hg; omega)
    have hz41 := (hu38).size
    have hb33 : Box w37 b30 [.int .i64 r24.period_, .int .i64 r24.edges_.e0, .int .i64 r24.edges_.e1] 84 := hb39
    refine TL.done ?_
    refine NX.seq ?_
    refine WC.seq ?_
    refine WC.quiet Tryd.hm (by kernel_rfl) ?_
    refine QL.yld rfl rfl (Yld.qui (yld_fieldAddr rfl fo_84_0 rfl)) ?_
    refine QL.yld rfl rfl (Yld.qui (yld_load1 0 rfl ag_2 rfl (Box.cells hb33) rfl rfl)) ?_
    refine QL.yld rfl rfl (Yld.qui (yld_fieldAddr rfl fo_84_1 rfl)) ?_
    refine QL.yld rfl rfl (Yld.qui (yld_indexArr rfl Tryd.underlying82 cn_2 rfl rfl (by decide))) ?_
    refine QL.yld rfl rfl (Yld.qui (yld_load1 1 rfl ag_2 rfl (Box.cells hb33) rfl rfl)) ?_
    refine QL.yld rfl rfl (Yld.qui (yld_fieldAddr rfl fo_84_1 rfl)) ?_
    refine QL.yld rfl rfl (Yld.qui (yld_indexArr rfl Tryd.underlying82 cn_2 rfl rfl (by decide))) ?_
    refine QL.yld rfl rfl (Yld.qui (yld_load1 2 rfl ag_2 rfl (Box.cells hb33) rfl rfl)) ?_
    refine QL.yld rfl rfl (Yld.qui (yld_assign rfl rfl)) ?_
    refine QL.yld rfl rfl (Yld.qui (yld_assign rfl rfl)) ?_
    refine QL.yld rfl rfl (Yld.qui (yld_assign rfl rfl)) ?_
    refine QL.yld rfl rfl (Yld.qui (yld_assign rfl rfl)) ?_
    refine QL.done fun w42 hx43 => ?_
    have he44 : Ext w w42 := Ext.trans he40 hx43
    have hb33 := Box.ext hb33 hx43
    have hs10 := ownR.ext hs10 hx43
    have hz45 := (hx43).size
    refine NX.seq ?_
    refine WC.ret' ?_
    obtain rfl := Option.some.inj hF
    exact NX.end (rs := [.tmp 4, .tmp 5, .tmp 6, .tmp 7]) (vs := [.int .i64 r24.period_, .int .i64 r24.edges_.e0, .int .i64 r24.edges_.e1, .int .i64 0]) rfl ⟨rfl, rfl, rfl, rfl, trivial⟩ ⟨_, rfl, rfl, he44⟩

end Go.Proofs.YthjagnioabgceabDoor
