/- The walks: every function that FnPulses reaches computes the plain function that is typed beside it; no condition. -/
import Derived.Test.YthjagnioabgceaaDoorWalkFnPulsesP0
import Derived.Test.YthjagnioabgceaaDoorDat
import Derived.Test.YthjagnioabgceaaDoorShelf
set_option linter.all false
set_option maxRecDepth 20000
namespace Go.Proofs.YthjagnioabgceaaDoor
open Go Go.RowKit Go.Eng
-- loop.example/g00861/impl.isClock
def F_impl_isClock (n : Nat) (a0_list : List S_Clock) (a1_k : Int) : Option Bool := (Option.bind (getI a0_list a1_k) fun x3 => (Option.bind (bif ((((((decide (x3.Place < 0)) || (decide (x3.EarlyLatency < 0)))) || (decide (x3.EarlyLatency > x3.LateLatency)))) || (decide (x3.LateLatency > 100000))) then (some true) else (Option.bind (F_impl_within n x3.Uncertainty 0 100000) fun r38 => (some (!r38)))) fun c38 => (bif c38 then (some false) else (bif (x3.Source == (-1)) then (Option.bind (F_impl_Clock_isPrimary n x3) fun r54 => (some r54)) else (Option.bind (F_impl_within n x3.Source 0 (IntKind.wrap IntKind.i64 (a1_k - 1))) fun r61 => (Option.bind (bif r61 then (Option.bind (F_impl_within n x3.Divide 1 8) fun r67 => (some r67)) else (some false)) fun c67 => (Option.bind (bif (((((c67 && ((x3.Period == 0)))) && ((x3.RiseAt == 0)))) && ((x3.FallAt == 0))) then (Option.bind (F_impl_waveOf n a0_list a1_k) fun r95 => (some (decide (r95.period_ ≤ 100000)))) else (some false)) fun c95 => (some c95))))))))
set_option maxHeartbeats 40000000 in
theorem W_impl_isClock {n : Nat} {a0_list : List S_Clock} {a1_k : Int} {r : Bool} {w : World} {v1 : Value} (hF : F_impl_isClock n a0_list a1_k = some r) (ha2 : slRep C_Clock w (Iv 0 w.heap.size) a0_list v1) :
    Calls Tryd.prog 50 [v1, .int .i64 a1_k].toArray w (Ret fun u w2 => u = .bool r ∧ Ext w w2) := by
  refine calls_of Tryd.func50 rfl Tryd.ntmps50 ?_
  have he0 : Ext w w := Ext.refl w
  unfold F_impl_isClock at hF
  refine WC.seq ?_
  refine WC.region ?_
  refine TL.yld rfl rfl (yld_assign rfl rfl) ?_
  refine TL.done ?_
  refine NX.seq ?_
  refine WC.seq ?_
  refine WC.region ?_
  refine TL.yld rfl rfl (yld_move rfl rfl) ?_
  refine TL.yld rfl rfl (yld_move rfl rfl) ?_
  obtain ⟨x3, hy4, hF⟩ := bsome hF
  refine TL.ye rfl rfl (ye_index (c := C_Clock) rfl Tryd.underlying25 cn_45 rfl rfl (slRep.old ha2 he0 (Nat.le_refl _)) hy4) ?_
  rintro _ ⟨b5, o6, us7, rfl, hib10, hr8, hcl9⟩
  have hib10 : 0 ≤ b5 ∧ b5 < w.heap.size := ⟨hib10.1, by have := hib10.2; omega⟩
  obtain rfl := C_Clock_open hr8
  refine TL.yld rfl rfl (yld_loadN (us := [.string x3.Name, .int .i64 x3.Place, .int .i64 x3.Period, .int .i64 x3.RiseAt, .int .i64 x3.FallAt, .int .i64 x3.Source, .int .i64 x3.Divide, .bool x3.Invert, .int .i64 x3.EarlyLatency, .int .i64 x3.LateLatency, .int .i64 x3.Uncertainty]) rfl ag_45 rfl hcl9 cn_45) ?_
  refine TL.eff rfl rfl (eff_alloc rfl zn_45) ?_
  rintro _ w12 ⟨b11, rfl, hn13⟩
  obtain ⟨hn13e, hn13s, hn13x, hb14⟩ := hn13
  have hb14 : Box w12 b11 [.string ByteArray.empty, .int .i64 0, .int .i64 0, .int .i64 0, .int .i64 0, .int .i64 0, .int .i64 0, .bool false, .int .i64 0, .int .i64 0, .int .i64 0] 45 := hb14
  have he16 : Ext w w12 := Ext.trans he0 hn13x
  have hz17 := (hn13x).size
  have hlo15 : w.heap.size ≤ b11 := by rw [hn13e]; exact (he0).size
  refine TL.eff rfl rfl (eff_store rfl rfl rfl hb14 cn_45 rfl rfl) ?_
  rintro _ w18 ⟨hu19, hb20⟩
  have he21 : Ext w w18 := Below.trans he16 (Upd.below hu19 (by omega))
  have hz22 := (hu19).size
  have hb14 : Box w18 b11 [.string x3.Name, .int .i64 x3.Place, .int .i64 x3.Period, .int .i64 x3.RiseAt, .int .i64 x3.FallAt, .int .i64 x3.Source, .int .i64 x3.Divide, .bool x3.Invert, .int .i64 x3.EarlyLatency, .int .i64 x3.LateLatency, .int .i64 x3.Uncertainty] 45 := hb20
  refine TL.done ?_
  refine NX.seq ?_
  refine WC.seq ?_
  refine WC.seq ?_
  refine WC.region ?_
  refine TL.yld rfl rfl (yld_fieldAddr rfl fo_45_1 rfl) ?_
  refine TL.yld rfl rfl (yld_load1 1 rfl ag_2 rfl (Box.cells hb14) rfl rfl) ?_
  refine TL.yld rfl rfl (yld_lss rfl rfl rfl) ?_
  refine TL.yld rfl rfl (yld_move rfl rfl) ?_
  refine TL.cut 4 [(0, v1), (1, .int .i64 a1_k), (5, .pointer (some ⟨b11, 0, none⟩)), (17, .bool (((decide (x3.Place < 0)) || (decide (x3.EarlyLatency < 0)))))] (fun w' => Ext w18 w') ?_ ?_
  · rcases Bool.eq_false_or_eq_true (decide (x3.Place < 0)) with hg23 | hg23
    ·
      refine TL.gnu (j := 3) (t := 13) rfl rfl rfl hg23 rfl ?_
      refine TL.gnu (j := 3) (t := 13) rfl rfl rfl hg23 rfl ?_
      refine TL.gnu (j := 3) (t := 13) rfl rfl rfl hg23 rfl ?_
      refine TL.yld rfl rfl (yld_or_t (b2 := decide (x3.EarlyLatency < 0)) rfl rfl hg23 rfl) ?_
      exact TL.nil fun a h => ⟨h.weaken ⟨rfl, rfl, rfl, rfl, trivial⟩, Ext.refl _⟩
    ·
      refine TL.gy (j := 3) (t := 13) rfl rfl rfl hg23 rfl (yld_fieldAddr rfl fo_45_8 rfl) ?_
      refine TL.gy (j := 3) (t := 13) rfl rfl rfl hg23 rfl (yld_load1 8 rfl ag_2 rfl (Box.cells hb14) rfl rfl) ?_
      refine TL.gy (j := 3) (t := 13) rfl rfl rfl hg23 rfl (yld_lss rfl rfl rfl) ?_
      refine TL.yld rfl rfl (yld_or_f rfl rfl hg23 rfl) ?_
      exact TL.nil fun a h => ⟨h.weaken ⟨rfl, rfl, rfl, rfl, trivial⟩, Ext.refl _⟩
  intro w24 hx25
  have he26 : Ext w w24 := Ext.trans he21 hx25
  have hb14 := Box.ext hb14 hx25
  have hz27 := (hx25).size
  refine TL.yld rfl rfl (yld_move rfl rfl) ?_
  refine TL.cut 6 [(0, v1), (1, .int .i64 a1_k), (5, .pointer (some ⟨b11, 0, none⟩)), (24, .bool (((((decide (x3.Place < 0)) || (decide (x3.EarlyLatency < 0)))) || (decide (x3.EarlyLatency > x3.LateLatency)))))] (fun w' => Ext w24 w') ?_ ?_
  · rcases Bool.eq_false_or_eq_true (((decide (x3.Place < 0)) || (decide (x3.EarlyLatency < 0)))) with hg28 | hg28
    ·
      refine TL.gnu (j := 8) (t := 18) rfl rfl rfl hg28 rfl ?_
      refine TL.gnu (j := 8) (t := 18) rfl rfl rfl hg28 rfl ?_
      refine TL.gnu (j := 8) (t := 18) rfl rfl rfl hg28 rfl ?_
      refine TL.gnu (j := 8) (t := 18) rfl rfl rfl hg28 rfl ?_
      refine TL.gnu (j := 8) (t := 18) rfl rfl rfl hg28 rfl ?_
      refine TL.yld rfl rfl (yld_or_t (b2 := decide (x3.EarlyLatency > x3.LateLatency)) rfl rfl hg28 rfl) ?_
      exact TL.nil fun a h => ⟨h.weaken ⟨rfl, rfl, rfl, rfl, trivial⟩, Ext.refl _⟩
    ·
      refine TL.gy (j := 8) (t := 18) rfl rfl rfl hg28 rfl (yld_fieldAddr rfl fo_45_8 rfl) ?_
      refine TL.gy (j := 8) (t := 18) rfl rfl rfl hg28 rfl (yld_load1 8 rfl ag_2 rfl (Box.cells hb14) rfl rfl) ?_
      refine TL.gy (j := 8) (t := 18) rfl rfl rfl hg28 rfl (yld_fieldAddr rfl fo_45_9 rfl) ?_
      refine TL.gy (j := 8) (t := 18) rfl rfl rfl hg28 rfl (yld_load1 9 rfl ag_2 rfl (Box.cells hb14) rfl rfl) ?_
      refine TL.gy (j := 8) (t := 18) rfl rfl rfl hg28 rfl (yld_gtr rfl rfl rfl) ?_
      refine TL.yld rfl rfl (yld_or_f rfl rfl hg28 rfl) ?_
      exact TL.nil fun a h => ⟨h.weaken ⟨rfl, rfl, rfl, rfl, trivial⟩, Ext.refl _⟩
  intro w29 hx30
  have he31 : Ext w w29 := Ext.trans he26 hx30
  have hb14 := Box.ext hb14 hx30
  have hz32 := (hx30).size
  refine TL.yld rfl rfl (yld_move rfl rfl) ?_
  refine TL.cut 4 [(0, v1), (1, .int .i64 a1_k), (5, .pointer (some ⟨b11, 0, none⟩)), (29, .bool (((((((decide (x3.Place < 0)) || (decide (x3.EarlyLatency < 0)))) || (decide (x3.EarlyLatency > x3.LateLatency)))) || (decide (x3.LateLatency > 100000)))))] (fun w' => Ext w29 w') ?_ ?_
  · rcases Bool.eq_false_or_eq_true (((((decide (x3.Place < 0)) || (decide (x3.EarlyLatency < 0)))) || (decide (x3.EarlyLatency > x3.LateLatency)))) with hg33 | hg33
    ·
      refine TL.gnu (j := 15) (t := 25) rfl rfl rfl hg33 rfl ?_
      refine TL.gnu (j := 15) (t := 25) rfl rfl rfl hg33 rfl ?_
      refine TL.gnu (j := 15) (t := 25) rfl rfl rfl hg33 rfl ?_
      refine TL.yld rfl rfl (yld_or_t (b2 := decide (x3.LateLatency > 100000)) rfl rfl hg33 rfl) ?_
      exact TL.nil fun a h => ⟨h.weaken ⟨rfl, rfl, rfl, rfl, trivial⟩, Ext.refl _⟩
    ·
      refine TL.gy (j := 15) (t := 25) rfl rfl rfl hg33 rfl (yld_fieldAddr rfl fo_45_9 rfl) ?_
      refine TL.gy (j := 15) (t := 25) rfl rfl rfl hg33 rfl (yld_load1 9 rfl ag_2 rfl (Box.cells hb14) rfl rfl) ?_
      refine TL.gy (j := 15) (t := 25) rfl rfl rfl hg33 rfl (yld_gtr rfl rfl rfl) ?_
      refine TL.yld rfl rfl (yld_or_f rfl rfl hg33 rfl) ?_
      exact TL.nil fun a h => ⟨h.weaken ⟨rfl, rfl, rfl, rfl, trivial⟩, Ext.refl _⟩
  intro w34 hx35
  have he36 : Ext w w34 := Ext.trans he31 hx35
  have hb14 := Box.ext hb14 hx35
  have hz37 := (hx35).size
  refine TL.yld rfl rfl (yld_move rfl rfl) ?_
  obtain ⟨c38, hb39, hF⟩ := bsome hF
  refine TL.cut 5 [(0, v1), (1, .int .i64 a1_k), (5, .pointer (some ⟨b11, 0, none⟩)), (35, .bool c38)] (fun w' => Ext w34 w') ?_ ?_
  · rcases Bool.eq_false_or_eq_true (((((((decide (x3.Place < 0)) || (decide (x3.EarlyLatency < 0)))) || (decide (x3.EarlyLatency > x3.LateLatency)))) || (decide (x3.LateLatency > 100000)))) with hg40 | hg40
    ·
      rw [hg40] at hb39; simp only [cond_true, cond_false] at hb39
      refine TL.gnu (j := 20) (t := 30) rfl rfl rfl hg40 rfl ?_
      refine TL.gnu (j := 20) (t := 30) rfl rfl rfl hg40 rfl ?_
      refine TL.gnu (j := 20) (t := 30) rfl rfl rfl hg40 rfl ?_
      refine TL.gnu (j := 20) (t := 30) rfl rfl rfl hg40 rfl ?_
      obtain rfl := Option.some.inj hb39
      refine TL.yld rfl rfl (yld_pick_t rfl rfl hg40 rfl) ?_
      exact TL.nil fun a h => ⟨h.weaken ⟨rfl, rfl, rfl, rfl, trivial⟩, Ext.refl _⟩
    ·
      rw [hg40] at hb39; simp only [cond_true, cond_false] at hb39
      replace hF := hb39
      refine TL.gy (j := 20) (t := 30) rfl rfl rfl hg40 rfl (yld_fieldAddr rfl fo_45_10 rfl) ?_
      refine TL.gy (j := 20) (t := 30) rfl rfl rfl hg40 rfl (yld_load1 10 rfl ag_2 rfl (Box.cells hb14) rfl rfl) ?_
      obtain ⟨r41, hr42, hF⟩ := bsome hF
      refine TL.ge (j := 20) (t := 30) rfl rfl rfl hg40 rfl (eff_call rfl gf_72 rfl (W_impl_within hr42)) ?_
      rintro _ w43 ⟨rfl, hx44⟩
      have he45 : Ext w w43 := Ext.trans he36 hx44
      have hb14 := Box.ext hb14 hx44
      have hz46 := (hx44).size
      refine TL.gy (j := 20) (t := 30) rfl rfl rfl hg40 rfl (yld_not rfl rfl) ?_
      obtain rfl := Option.some.inj hF
      refine TL.yld rfl rfl (yld_pick_f rfl rfl hg40 rfl) ?_
      exact TL.nil fun a h => ⟨h.weaken ⟨rfl, rfl, rfl, rfl, trivial⟩, hx44⟩
  intro w47 hx48
  have he49 : Ext w w47 := Ext.trans he36 hx48
  have hb14 := Box.ext hb14 hx48
  have hz50 := (hx48).size
  refine TL.done ?_
  refine NX.seq ?_
  refine WC.cond rfl ?_ ?_
  · intro hc51
    replace hF := bif_t hc51 hF
    refine WC.seq ?_
    refine WC.region ?_
    refine TL.yld rfl rfl (yld_assign rfl rfl) ?_
    refine TL.done ?_
    refine NX.seq ?_
    refine WC.ret' ?_
    refine NX.then_r ?_
    obtain rfl := Option.some.inj hF
    exact NX.end (rs := [.tmp 4]) (vs := [.bool false]) rfl ⟨rfl, trivial⟩ ⟨_, rfl, rfl, he49⟩
  · intro hc52
    replace hF := bif_f hc52 hF
    refine WC.skip' ?_
    refine NX.seq ?_
    refine WC.seq ?_
    refine WC.seq ?_
    refine WC.region ?_
    refine TL.yld rfl rfl (yld_fieldAddr rfl fo_45_5 rfl) ?_
    refine TL.yld rfl rfl (yld_load1 5 rfl ag_2 rfl (Box.cells hb14) rfl rfl) ?_
    refine TL.yld rfl rfl (yld_eql rfl rfl rfl) ?_
    refine TL.done ?_
    refine NX.seq ?_
    refine WC.cond rfl ?_ ?_
    · intro hc53
      replace hF := bif_t hc53 hF
      refine WC.seq ?_
      refine WC.region ?_
      refine TL.yld rfl rfl (yld_loadN (us := [.string x3.Name, .int .i64 x3.Place, .int .i64 x3.Period, .int .i64 x3.RiseAt, .int .i64 x3.FallAt, .int .i64 x3.Source, .int .i64 x3.Divide, .bool x3.Invert, .int .i64 x3.EarlyLatency, .int .i64 x3.LateLatency, .int .i64 x3.Uncertainty]) rfl ag_45 rfl (Box.cells hb14) cn_45) ?_
      obtain ⟨r54, hr55, hF⟩ := bsome hF
      refine TL.eff rfl rfl (eff_call rfl gf_73 rfl (W_impl_Clock_isPrimary hr55)) ?_
      rintro _ w56 ⟨rfl, hx57⟩
      have he58 : Ext w w56 := Ext.trans he49 hx57
      have hb14 := Box.ext hb14 hx57
      have hz59 := (hx57).size
      refine TL.yld rfl rfl (yld_assign rfl rfl) ?_
      refine TL.done ?_
      refine NX.seq ?_
      refine WC.ret' ?_
      refine NX.then_r ?_
      obtain rfl := Option.some.inj hF
      exact NX.end (rs := [.tmp 4]) (vs := [.bool r54]) rfl ⟨rfl, trivial⟩ ⟨_, rfl, rfl, he58⟩
    · intro hc60
      replace hF := bif_f hc60 hF
      refine WC.skip' ?_
      refine NX.seq ?_
      refine WC.seq ?_
      refine WC.region ?_
      refine TL.yld rfl rfl (yld_fieldAddr rfl fo_45_5 rfl) ?_
      refine TL.yld rfl rfl (yld_load1 5 rfl ag_2 rfl (Box.cells hb14) rfl rfl) ?_
      refine TL.yld rfl rfl (yld_move rfl rfl) ?_
      refine TL.yld rfl rfl (yld_sub rfl rfl rfl) ?_
      obtain ⟨r61, hr62, hF⟩ := bsome hF
      refine TL.eff rfl rfl (eff_call rfl gf_72 rfl (W_impl_within hr62)) ?_
      rintro _ w63 ⟨rfl, hx64⟩
      have he65 : Ext w w63 := Ext.trans he49 hx64
      have hb14 := Box.ext hb14 hx64
      have hz66 := (hx64).size
      refine TL.yld rfl rfl (yld_move rfl rfl) ?_
      obtain ⟨c67, hb68, hF⟩ := bsome hF
      refine TL.cut 4 [(0, v1), (1, .int .i64 a1_k), (5, .pointer (some ⟨b11, 0, none⟩)), (50, .bool c67)] (fun w' => Ext w63 w') ?_ ?_
      · rcases Bool.eq_false_or_eq_true r61 with hg69 | hg69
        ·
          rw [hg69] at hb68; simp only [cond_true, cond_false] at hb68
          replace hF := hb68
          refine TL.gy (j := 5) (t := 46) rfl rfl rfl hg69 rfl (yld_fieldAddr rfl fo_45_6 rfl) ?_
          refine TL.gy (j := 5) (t := 46) rfl rfl rfl hg69 rfl (yld_load1 6 rfl ag_2 rfl (Box.cells hb14) rfl rfl) ?_
          obtain ⟨r70, hr71, hF⟩ := bsome hF
          refine TL.ge (j := 5) (t := 46) rfl rfl rfl hg69 rfl (eff_call rfl gf_72 rfl (W_impl_within hr71)) ?_
          rintro _ w72 ⟨rfl, hx73⟩
          have he74 : Ext w w72 := Ext.trans he65 hx73
          have hb14 := Box.ext hb14 hx73
          have hz75 := (hx73).size
          obtain rfl := Option.some.inj hF
          refine TL.yld rfl rfl (yld_pick_t rfl rfl hg69 rfl) ?_
          exact TL.nil fun a h => ⟨h.weaken ⟨rfl, rfl, rfl, rfl, trivial⟩, hx73⟩
        ·
          rw [hg69] at hb68; simp only [cond_true, cond_false] at hb68
          refine TL.gnu (j := 5) (t := 46) rfl rfl rfl hg69 rfl ?_
          refine TL.gnu (j := 5) (t := 46) rfl rfl rfl hg69 rfl ?_
          refine TL.gnu (j := 5) (t := 46) rfl rfl rfl hg69 rfl ?_
          obtain rfl := Option.some.inj hb68
          refine TL.yld rfl rfl (yld_pick_f rfl rfl hg69 rfl) ?_
          exact TL.nil fun a h => ⟨h.weaken ⟨rfl, rfl, rfl, rfl, trivial⟩, Ext.refl _⟩
      intro w76 hx77
      have he78 : Ext w w76 := Ext.trans he65 hx77
      have hb14 := Box.ext hb14 hx77
      have hz79 := (hx77).size
      refine TL.yld rfl rfl (yld_move rfl rfl) ?_
      refine TL.cut 4 [(0, v1), (1, .int .i64 a1_k), (5, .pointer (some ⟨b11, 0, none⟩)), (55, .bool ((c67 && ((x3.Period == 0)))))] (fun w' => Ext w76 w') ?_ ?_
      · rcases Bool.eq_false_or_eq_true c67 with hg80 | hg80
        ·
          refine TL.gy (j := 10) (t := 51) rfl rfl rfl hg80 rfl (yld_fieldAddr rfl fo_45_2 rfl) ?_
          refine TL.gy (j := 10) (t := 51) rfl rfl rfl hg80 rfl (yld_load1 2 rfl ag_2 rfl (Box.cells hb14) rfl rfl) ?_
          refine TL.gy (j := 10) (t := 51) rfl rfl rfl hg80 rfl (yld_eql rfl rfl rfl) ?_
          refine TL.yld rfl rfl (yld_and_t rfl rfl hg80 rfl) ?_
          exact TL.nil fun a h => ⟨h.weaken ⟨rfl, rfl, rfl, rfl, trivial⟩, Ext.refl _⟩
        ·
          refine TL.gnu (j := 10) (t := 51) rfl rfl rfl hg80 rfl ?_
          refine TL.gnu (j := 10) (t := 51) rfl rfl rfl hg80 rfl ?_
          refine TL.gnu (j := 10) (t := 51) rfl rfl rfl hg80 rfl ?_
          refine TL.yld rfl rfl (yld_and_f (b2 := (x3.Period == 0)) rfl rfl hg80 rfl) ?_
          exact TL.nil fun a h => ⟨h.weaken ⟨rfl, rfl, rfl, rfl, trivial⟩, Ext.refl _⟩
      intro w81 hx82
      have he83 : Ext w w81 := Ext.trans he78 hx82
      have hb14 := Box.ext hb14 hx82
      have hz84 := (hx82).size
      refine TL.yld rfl rfl (yld_move rfl rfl) ?_
      refine TL.cut 4 [(0, v1), (1, .int .i64 a1_k), (5, .pointer (some ⟨b11, 0, none⟩)), (60, .bool ((((c67 && ((x3.Period == 0)))) && ((x3.RiseAt == 0)))))] (fun w' => Ext w81 w') ?_ ?_
      · rcases Bool.eq_false_or_eq_true ((c67 && ((x3.Period == 0)))) with hg85 | hg85
        ·
          refine TL.gy (j := 15) (t := 56) rfl rfl rfl hg85 rfl (yld_fieldAddr rfl fo_45_3 rfl) ?_
          refine TL.gy (j := 15) (t := 56) rfl rfl rfl hg85 rfl (yld_load1 3 rfl ag_2 rfl (Box.cells hb14) rfl rfl) ?_
          refine TL.gy (j := 15) (t := 56) rfl rfl rfl hg85 rfl (yld_eql rfl rfl rfl) ?_
          refine TL.yld rfl rfl (yld_and_t rfl rfl hg85 rfl) ?_
          exact TL.nil fun a h => ⟨h.weaken ⟨rfl, rfl, rfl, rfl, trivial⟩, Ext.refl _⟩
        ·
          refine TL.gnu (j := 15) (t := 56) rfl rfl rfl hg85 rfl ?_
          refine TL.gnu (j := 15) (t := 56) rfl rfl rfl hg85 rfl ?_
          refine TL.gnu (j := 15) (t := 56) rfl rfl rfl hg85 rfl ?_
          refine TL.yld rfl rfl (yld_and_f (b2 := (x3.RiseAt == 0)) rfl rfl hg85 rfl) ?_
          exact TL.nil fun a h => ⟨h.weaken ⟨rfl, rfl, rfl, rfl, trivial⟩, Ext.refl _⟩
      intro w86 hx87
      have he88 : Ext w w86 := Ext.trans he83 hx87
      have hb14 := Box.ext hb14 hx87
      have hz89 := (hx87).size
      refine TL.yld rfl rfl (yld_move rfl rfl) ?_
      refine TL.cut 4 [(0, v1), (1, .int .i64 a1_k), (65, .bool ((((((c67 && ((x3.Period == 0)))) && ((x3.RiseAt == 0)))) && ((x3.FallAt == 0)))))] (fun w' => Ext w86 w') ?_ ?_
      · rcases Bool.eq_false_or_eq_true ((((c67 && ((x3.Period == 0)))) && ((x3.RiseAt == 0)))) with hg90 | hg90
        ·
          refine TL.gy (j := 20) (t := 61) rfl rfl rfl hg90 rfl (yld_fieldAddr rfl fo_45_4 rfl) ?_
          refine TL.gy (j := 20) (t := 61) rfl rfl rfl hg90 rfl (yld_load1 4 rfl ag_2 rfl (Box.cells hb14) rfl rfl) ?_
          refine TL.gy (j := 20) (t := 61) rfl rfl rfl hg90 rfl (yld_eql rfl rfl rfl) ?_
          refine TL.yld rfl rfl (yld_and_t rfl rfl hg90 rfl) ?_
          exact TL.nil fun a h => ⟨h.weaken ⟨rfl, rfl, rfl, trivial⟩, Ext.refl _⟩
        ·
          refine TL.gnu (j := 20) (t := 61) rfl rfl rfl hg90 rfl ?_
          refine TL.gnu (j := 20) (t := 61) rfl rfl rfl hg90 rfl ?_
          refine TL.gnu (j := 20) (t := 61) rfl rfl rfl hg90 rfl ?_
          refine TL.yld rfl rfl (yld_and_f (b2 := (x3.FallAt == 0)) rfl rfl hg90 rfl) ?_
          exact TL.nil fun a h => ⟨h.weaken ⟨rfl, rfl, rfl, trivial⟩, Ext.refl _⟩
      intro w91 hx92
      have he93 : Ext w w91 := Ext.trans he88 hx92
      have hb14 := Box.ext hb14 hx92
      have hz94 := (hx92).size
      refine TL.yld rfl rfl (yld_move rfl rfl) ?_
      obtain ⟨c95, hb96, hF⟩ := bsome hF
      refine TL.cut 6 [(72, .bool c95)] (fun w' => Ext w91 w') ?_ ?_
      · rcases Bool.eq_false_or_eq_true ((((((c67 && ((x3.Period == 0)))) && ((x3.RiseAt == 0)))) && ((x3.FallAt == 0)))) with hg97 | hg97
        ·
          rw [hg97] at hb96; simp only [cond_true, cond_false] at hb96
          replace hF := hb96
          refine TL.gy (j := 25) (t := 66) rfl rfl rfl hg97 rfl (yld_move rfl rfl) ?_
          refine TL.gy (j := 25) (t := 66) rfl rfl rfl hg97 rfl (yld_move rfl rfl) ?_
          obtain ⟨r98, hr99, hF⟩ := bsome hF
          refine TL.ge (j := 25) (t := 66) rfl rfl rfl hg97 rfl (eff_call rfl gf_55 rfl (W_impl_waveOf hr99 ((slRep.old ha2 he93 (Nat.le_refl _)).wide (Nat.le_refl _) (he93).size))) ?_
          rintro _ w100 ⟨rfl, hx101⟩
          have he102 : Ext w w100 := Ext.trans he93 hx101
          have hb14 := Box.ext hb14 hx101
          have hz103 := (hx101).size
          refine TL.gy (j := 25) (t := 66) rfl rfl rfl hg97 rfl (yld_field1 rfl ft_71_0 ag_2 rfl rfl) ?_
          refine TL.gy (j := 25) (t := 66) rfl rfl rfl hg97 rfl (yld_leq rfl rfl rfl) ?_
          obtain rfl := Option.some.inj hF
          refine TL.yld rfl rfl (yld_pick_t rfl rfl hg97 rfl) ?_
          exact TL.nil fun a h => ⟨h.weaken ⟨rfl, trivial⟩, hx101⟩
        ·
          rw [hg97] at hb96; simp only [cond_true, cond_false] at hb96
          refine TL.gnu (j := 25) (t := 66) rfl rfl rfl hg97 rfl ?_
          refine TL.gnu (j := 25) (t := 66) rfl rfl rfl hg97 rfl ?_
          refine TL.gnu (j := 25) (t := 66) rfl rfl rfl hg97 rfl ?_
          refine TL.gnu (j := 25) (t := 66) rfl rfl rfl hg97 rfl ?_
          refine TL.gnu (j := 25) (t := 66) rfl rfl rfl hg97 rfl ?_
          obtain rfl := Option.some.inj hb96
          refine TL.yld rfl rfl (yld_pick_f rfl rfl hg97 rfl) ?_
          exact TL.nil fun a h => ⟨h.weaken ⟨rfl, trivial⟩, Ext.refl _⟩
      intro w104 hx105
      have he106 : Ext w w104 := Ext.trans he93 hx105
      have hb14 := Box.ext hb14 hx105
      have hz107 := (hx105).size
      refine TL.yld rfl rfl (yld_assign rfl rfl) ?_
      refine TL.done ?_
      refine NX.seq ?_
      refine WC.ret' ?_
      obtain rfl := Option.some.inj hF
      exact NX.end (rs := [.tmp 4]) (vs := [.bool c95]) rfl ⟨rfl, trivial⟩ ⟨_, rfl, rfl, he106⟩

-- strings.Trim, by the shelf's contract
def F_strings_Trim (n : Nat) (a0_s : ByteArray) (a1_cutset : ByteArray) : Option ByteArray := if a0_s.size ≤ 9223372036854775807 ∧ a1_cutset.size < 4294967281 ∧ (a1_cutset.data.toList.all fun b => decide (b.toNat < 128)) = true then some ⟨(Lib.trimS a0_s.data.toList a1_cutset.data.toList).toArray⟩ else none
theorem W_strings_Trim {n : Nat} {a0_s : ByteArray} {a1_cutset : ByteArray} {r : ByteArray} {w : World} (hF : F_strings_Trim n a0_s a1_cutset = some r) :
    Calls Tryd.prog 82 [.string a0_s, .string a1_cutset].toArray w (Ret fun u w2 => u = .string r ∧ Ext w w2) := by
  unfold F_strings_Trim at hF
  split at hF
  · rename_i h
    obtain rfl := Option.some.inj hF
    refine (Tryd.strings_Trim_ascii a0_s a1_cutset w h.1 h.2.1 (fun j b hb => of_decide_eq_true (List.all_eq_true.1 h.2.2 b (List.mem_of_getElem? hb)))).mono ?_
    rintro e w' ⟨rfl, hB⟩
    exact ⟨_, rfl, rfl, hB⟩
  · cases hF

-- strings.IndexByte, by the shelf's contract
def F_strings_IndexByte (n : Nat) (a0_s : ByteArray) (a1_c : Int) : Option Int := some (Lib.indexByte a0_s.data.toList a1_c.toNat.toUInt8)
theorem W_strings_IndexByte {n : Nat} {a0_s : ByteArray} {a1_c : Int} {r : Int} {w : World} (hF : F_strings_IndexByte n a0_s a1_c = some r) :
    Calls Tryd.prog 83 [.string a0_s, .int .u8 a1_c].toArray w (Ret fun u w2 => u = .int .i64 r ∧ Ext w w2) := by
  obtain rfl := Option.some.inj hF
  refine (Tryd.strings_IndexByte a0_s a1_c w).mono ?_
  rintro e w' ⟨rfl, rfl⟩
  exact ⟨_, rfl, rfl, Ext.refl _⟩

-- loop.example/g00861/impl.isName
def F_impl_isName (n : Nat) (a0_s : ByteArray) : Option Bool := (Option.bind (F_impl_within n ((a0_s.size : Int)) 1 8) fun r1 => (Option.bind (bif r1 then (Option.bind (F_strings_Trim n a0_s ((ByteArray.mk #[97, 98, 99, 100, 101, 102, 103, 104, 105, 106, 107, 108, 109, 110, 111, 112, 113, 114, 115, 116, 117, 118, 119, 120, 121, 122, 48, 49, 50, 51, 52, 53, 54, 55, 56, 57]))) fun r7 => (some ((r7.toList == ((ByteArray.mk #[])).toList)))) else (some false)) fun c7 => (Option.bind (bif c7 then (Option.bind (getB a0_s 0) fun x20 => (Option.bind (F_strings_IndexByte n ((ByteArray.mk #[97, 98, 99, 100, 101, 102, 103, 104, 105, 106, 107, 108, 109, 110, 111, 112, 113, 114, 115, 116, 117, 118, 119, 120, 121, 122])) x20) fun r22 => (some (decide (r22 ≥ 0))))) else (some false)) fun c20 => (some c20))))
set_option maxHeartbeats 40000000 in
theorem W_impl_isName {n : Nat} {a0_s : ByteArray} {r : Bool} {w : World} (hF : F_impl_isName n a0_s = some r) :
    Calls Tryd.prog 74 [.string a0_s].toArray w (Ret fun u w2 => u = .bool r ∧ Ext w w2) := by
  refine calls_of Tryd.func74 rfl Tryd.ntmps74 ?_
  have he0 : Ext w w := Ext.refl w
  unfold F_impl_isName at hF
  refine WC.seq ?_
  refine WC.region ?_
  refine TL.yld rfl rfl (yld_assign rfl rfl) ?_
  refine TL.done ?_
  refine NX.seq ?_
  refine WC.seq ?_
  refine WC.region ?_
  refine TL.yld rfl rfl (yld_move rfl rfl) ?_
  refine TL.yld rfl rfl (yld_lens rfl Tryd.underlying9 rfl) ?_
  obtain ⟨r1, hr2, hF⟩ := bsome hF
  refine TL.eff rfl rfl (eff_call rfl gf_72 rfl (W_impl_within hr2)) ?_
  rintro _ w3 ⟨rfl, hx4⟩
  have he5 : Ext w w3 := Ext.trans he0 hx4
  have hz6 := (hx4).size
  refine TL.yld rfl rfl (yld_move rfl rfl) ?_
  obtain ⟨c7, hb8, hF⟩ := bsome hF
  refine TL.cut 4 [(0, .string a0_s), (10, .bool c7)] (fun w' => Ext w3 w') ?_ ?_
  · rcases Bool.eq_false_or_eq_true r1 with hg9 | hg9
    ·
      rw [hg9] at hb8; simp only [cond_true, cond_false] at hb8
      replace hF := hb8
      refine TL.gy (j := 3) (t := 6) rfl rfl rfl hg9 rfl (yld_move rfl rfl) ?_
      obtain ⟨r10, hr11, hF⟩ := bsome hF
      refine TL.ge (j := 3) (t := 6) rfl rfl rfl hg9 rfl (eff_call rfl gf_82 rfl (W_strings_Trim hr11)) ?_
      rintro _ w12 ⟨rfl, hx13⟩
      have he14 : Ext w w12 := Ext.trans he5 hx13
      have hz15 := (hx13).size
      refine TL.gy (j := 3) (t := 6) rfl rfl rfl hg9 rfl (yld_eqs rfl rfl rfl) ?_
      obtain rfl := Option.some.inj hF
      refine TL.yld rfl rfl (yld_pick_t rfl rfl hg9 rfl) ?_
      exact TL.nil fun a h => ⟨h.weaken ⟨rfl, rfl, trivial⟩, hx13⟩
    ·
      rw [hg9] at hb8; simp only [cond_true, cond_false] at hb8
      refine TL.gnu (j := 3) (t := 6) rfl rfl rfl hg9 rfl ?_
      refine TL.gnu (j := 3) (t := 6) rfl rfl rfl hg9 rfl ?_
      refine TL.gnu (j := 3) (t := 6) rfl rfl rfl hg9 rfl ?_
      obtain rfl := Option.some.inj hb8
      refine TL.yld rfl rfl (yld_pick_f rfl rfl hg9 rfl) ?_
      exact TL.nil fun a h => ⟨h.weaken ⟨rfl, rfl, trivial⟩, Ext.refl _⟩
  intro w16 hx17
  have he18 : Ext w w16 := Ext.trans he5 hx17
  have hz19 := (hx17).size
  refine TL.yld rfl rfl (yld_move rfl rfl) ?_
  obtain ⟨c20, hb21, hF⟩ := bsome hF
  refine TL.cut 5 [(16, .bool c20)] (fun w' => Ext w16 w') ?_ ?_
  · rcases Bool.eq_false_or_eq_true c7 with hg22 | hg22
    ·
      rw [hg22] at hb21; simp only [cond_true, cond_false] at hb21
      replace hF := hb21
      refine TL.gy (j := 8) (t := 11) rfl rfl rfl hg22 rfl (yld_move rfl rfl) ?_
      obtain ⟨x23, hy24, hF⟩ := bsome hF
      refine TL.gy (j := 8) (t := 11) rfl rfl rfl hg22 rfl (yld_indexStr rfl Tryd.underlying9 rfl rfl hy24) ?_
      obtain ⟨r25, hr26, hF⟩ := bsome hF
      refine TL.ge (j := 8) (t := 11) rfl rfl rfl hg22 rfl (eff_call rfl gf_83 rfl (W_strings_IndexByte hr26)) ?_
      rintro _ w27 ⟨rfl, hx28⟩
      have he29 : Ext w w27 := Ext.trans he18 hx28
      have hz30 := (hx28).size
      refine TL.gy (j := 8) (t := 11) rfl rfl rfl hg22 rfl (yld_geq rfl rfl rfl) ?_
      obtain rfl := Option.some.inj hF
      refine TL.yld rfl rfl (yld_pick_t rfl rfl hg22 rfl) ?_
      exact TL.nil fun a h => ⟨h.weaken ⟨rfl, trivial⟩, hx28⟩
    ·
      rw [hg22] at hb21; simp only [cond_true, cond_false] at hb21
      refine TL.gnu (j := 8) (t := 11) rfl rfl rfl hg22 rfl ?_
      refine TL.gnu (j := 8) (t := 11) rfl rfl rfl hg22 rfl ?_
      refine TL.gnu (j := 8) (t := 11) rfl rfl rfl hg22 rfl ?_
      refine TL.gnu (j := 8) (t := 11) rfl rfl rfl hg22 rfl ?_
      obtain rfl := Option.some.inj hb21
      refine TL.yld rfl rfl (yld_pick_f rfl rfl hg22 rfl) ?_
      exact TL.nil fun a h => ⟨h.weaken ⟨rfl, trivial⟩, Ext.refl _⟩
  intro w31 hx32
  have he33 : Ext w w31 := Ext.trans he18 hx32
  have hz34 := (hx32).size
  refine TL.yld rfl rfl (yld_assign rfl rfl) ?_
  refine TL.done ?_
  refine NX.seq ?_
  refine WC.ret' ?_
  obtain rfl := Option.some.inj hF
  exact NX.end (rs := [.tmp 2]) (vs := [.bool c20]) rfl ⟨rfl, trivial⟩ ⟨_, rfl, rfl, he33⟩

-- slices.Index[[]string,string]
def F_slices_Index_string_string_L1 (a0_s : List ByteArray) (a1_v : ByteArray) (k0 : Int → Option Int) : Nat → Int → Option Int
  | 0 => fun _ => none
  | m + 1 => fun i5 => (bif decide (i5 < (a0_s.length : Int)) then (Option.bind (getI a0_s i5) fun x7 => (bif (a1_v.toList == x7.toList) then (some i5) else (F_slices_Index_string_string_L1 a0_s a1_v k0 m (IntKind.wrap IntKind.i64 (i5 + 1))))) else (k0 i5))
theorem F_slices_Index_string_string_L1_z (a0_s : List ByteArray) (a1_v : ByteArray) (k0 : Int → Option Int) (i5 : Int) : F_slices_Index_string_string_L1 a0_s a1_v k0 0 i5 = none := rfl
theorem F_slices_Index_string_string_L1_s (m : Nat) (a0_s : List ByteArray) (a1_v : ByteArray) (k0 : Int → Option Int) (i5 : Int) : F_slices_Index_string_string_L1 a0_s a1_v k0 (m + 1) i5 = (bif decide (i5 < (a0_s.length : Int)) then (Option.bind (getI a0_s i5) fun x7 => (bif (a1_v.toList == x7.toList) then (some i5) else (F_slices_Index_string_string_L1 a0_s a1_v k0 m (IntKind.wrap IntKind.i64 (i5 + 1))))) else (k0 i5)) := rfl

def F_slices_Index_string_string (n : Nat) (a0_s : List ByteArray) (a1_v : ByteArray) : Option Int := (F_slices_Index_string_string_L1 a0_s a1_v (fun i5 => (some (-1))) n 0)
set_option maxHeartbeats 40000000 in
theorem W_slices_Index_string_string {n : Nat} {a0_s : List ByteArray} {a1_v : ByteArray} {r : Int} {w : World} {v1 : Value} (hF : F_slices_Index_string_string n a0_s a1_v = some r) (ha2 : slRep cStr w (Iv 0 w.heap.size) a0_s v1) :
    Calls Tryd.prog 84 [v1, .string a1_v].toArray w (Ret fun u w2 => u = .int .i64 r ∧ Ext w w2) := by
  refine calls_of Tryd.func84 rfl Tryd.ntmps84 ?_
  have he0 : Ext w w := Ext.refl w
  unfold F_slices_Index_string_string at hF
  refine WC.seq ?_
  refine WC.region ?_
  refine TL.yld rfl rfl (yld_assign rfl rfl) ?_
  refine TL.done ?_
  refine NX.seq ?_
  refine WC.seq ?_
  refine WC.seq ?_
  refine WC.region ?_
  refine TL.yld rfl rfl (yld_move rfl rfl) ?_
  refine TL.yld rfl rfl (ye_len (c := cStr) rfl Tryd.underlying63 rfl (slRep.old ha2 he0 (Nat.le_refl _))) ?_
  refine TL.yld rfl rfl (yld_move rfl rfl) ?_
  refine TL.done ?_
  refine NX.seq ?_
  refine WC.block ?_
  refine WC.loop (fun m6 a wl => ∃ (i5 : Int), Kn 19 [(0, v1), (1, .string a1_v), (7, .int .i64 ((a0_s.length : Int))), (8, .int .i64 i5)] a ∧ Ext w wl ∧ w.heap.size ≤ wl.heap.size ∧ F_slices_Index_string_string_L1 a0_s a1_v (fun i5 => (some (-1))) m6 i5 = some r) n ?_ ?_
  · intro a hK; exact ⟨0, hK.weaken ⟨rfl, rfl, rfl, rfl, trivial⟩, he0, Nat.le_refl _, hF⟩
  · rintro m6 a w3 ⟨i5, hK, he4, hz7, hF⟩
    revert hK; revert a; refine (?_ : WC _ _ _ _ _ _)
    cases m6 with
    | zero => rw [F_slices_Index_string_string_L1_z] at hF; cases hF
    | succ m6 =>
      rw [F_slices_Index_string_string_L1_s] at hF
      refine WC.seq ?_
      refine WC.region ?_
      refine TL.yld rfl rfl (yld_lss rfl rfl rfl) ?_
      refine TL.done ?_
      refine NX.seq ?_
      refine WC.seq ?_
      refine WC.cond rfl ?_ ?_
      · intro hc8
        replace hF := bif_t hc8 hF
        refine WC.skip' ?_
        refine NX.seq ?_
        refine WC.seq ?_
        refine WC.block ?_
        refine WC.seq ?_
        refine WC.region ?_
        refine TL.yld rfl rfl (yld_move rfl rfl) ?_
        refine TL.yld rfl rfl (yld_assign rfl rfl) ?_
        refine TL.done ?_
        refine NX.seq ?_
        refine WC.seq ?_
        refine WC.region ?_
        refine TL.yld rfl rfl (yld_move rfl rfl) ?_
        refine TL.yld rfl rfl (yld_move rfl rfl) ?_
        refine TL.yld rfl rfl (yld_move rfl rfl) ?_
        obtain ⟨x9, hy10, hF⟩ := bsome hF
        refine TL.ye rfl rfl (ye_index (c := cStr) rfl Tryd.underlying63 cn_9 rfl rfl (slRep.old ha2 he4 (Nat.le_refl _)) hy10) ?_
        rintro _ ⟨b11, o12, us13, rfl, hib16, hr14, hcl15⟩
        have hib16 : 0 ≤ b11 ∧ b11 < w.heap.size := ⟨hib16.1, by have := hib16.2; omega⟩
        obtain rfl := hr14
        refine TL.yld rfl rfl (yld_load1 0 rfl ag_9 rfl hcl15 rfl rfl) ?_
        refine TL.yld rfl rfl (yld_eqs rfl rfl rfl) ?_
        refine TL.done ?_
        refine NX.seq ?_
        refine WC.cond rfl ?_ ?_
        · intro hc17
          replace hF := bif_t hc17 hF
          refine WC.seq ?_
          refine WC.region ?_
          refine TL.yld rfl rfl (yld_move rfl rfl) ?_
          refine TL.yld rfl rfl (yld_assign rfl rfl) ?_
          refine TL.done ?_
          refine NX.seq ?_
          refine WC.ret' ?_
          refine NX.blk_r ?_
          refine NX.then_r ?_
          refine NX.then_r ?_
          refine NX.blk_r ?_
          refine NX.then_r ?_
          obtain rfl := Option.some.inj hF
          exact NX.end (rs := [.tmp 4]) (vs := [.int .i64 i5]) rfl ⟨rfl, trivial⟩ ⟨_, rfl, rfl, he4⟩
        · intro hc18
          replace hF := bif_f hc18 hF
          refine WC.skip' ?_
          refine NX.blk_n ?_
          refine NX.seq ?_
          refine WC.region ?_
          refine TL.yld rfl rfl (yld_add rfl rfl rfl) ?_
          refine TL.yld rfl rfl (yld_move rfl rfl) ?_
          refine TL.done ?_
          refine NX.then_n ?_
          intro a hK; exact ⟨m6, Nat.lt_succ_self m6, (IntKind.wrap IntKind.i64 (i5 + 1)), hK.weaken ⟨rfl, rfl, rfl, rfl, trivial⟩, he4, (by omega), hF⟩
      · intro hc19
        replace hF := bif_f hc19 hF
        refine WC.exit' ?_
        refine NX.then_e ?_
        refine NX.then_e ?_
        refine NX.blk_hit ?_
        refine NX.seq ?_
        refine WC.seq ?_
        refine WC.region ?_
        refine TL.yld rfl rfl (yld_assign rfl rfl) ?_
        refine TL.done ?_
        refine NX.seq ?_
        refine WC.ret' ?_
        obtain rfl := Option.some.inj hF
        exact NX.end (rs := [.tmp 4]) (vs := [.int .i64 (-1)]) rfl ⟨rfl, trivial⟩ ⟨_, rfl, rfl, he4⟩

-- slices.Contains[[]string,string]
def F_slices_Contains_string_string (n : Nat) (a0_s : List ByteArray) (a1_v : ByteArray) : Option Bool := (Option.bind (F_slices_Index_string_string n a0_s a1_v) fun r3 => (some (decide (r3 ≥ 0))))
set_option maxHeartbeats 40000000 in
theorem W_slices_Contains_string_string {n : Nat} {a0_s : List ByteArray} {a1_v : ByteArray} {r : Bool} {w : World} {v1 : Value} (hF : F_slices_Contains_string_string n a0_s a1_v = some r) (ha2 : slRep cStr w (Iv 0 w.heap.size) a0_s v1) :
    Calls Tryd.prog 75 [v1, .string a1_v].toArray w (Ret fun u w2 => u = .bool r ∧ Ext w w2) := by
  refine calls_of Tryd.func75 rfl Tryd.ntmps75 ?_
  have he0 : Ext w w := Ext.refl w
  unfold F_slices_Contains_string_string at hF
  refine WC.seq ?_
  refine WC.region ?_
  refine TL.yld rfl rfl (yld_assign rfl rfl) ?_
  refine TL.done ?_
  refine NX.seq ?_
  refine WC.seq ?_
  refine WC.region ?_
  refine TL.yld rfl rfl (yld_move rfl rfl) ?_
  refine TL.yld rfl rfl (yld_move rfl rfl) ?_
  obtain ⟨r3, hr4, hF⟩ := bsome hF
  refine TL.eff rfl rfl (eff_call rfl gf_84 rfl (W_slices_Index_string_string hr4 ((slRep.old ha2 he0 (Nat.le_refl _)).wide (Nat.le_refl _) (he0).size))) ?_
  rintro _ w5 ⟨rfl, hx6⟩
  have he7 : Ext w w5 := Ext.trans he0 hx6
  have hz8 := (hx6).size
  refine TL.yld rfl rfl (yld_geq rfl rfl rfl) ?_
  refine TL.yld rfl rfl (yld_assign rfl rfl) ?_
  refine TL.done ?_
  refine NX.seq ?_
  refine WC.ret' ?_
  obtain rfl := Option.some.inj hF
  exact NX.end (rs := [.tmp 4]) (vs := [.bool (decide (r3 ≥ 0))]) rfl ⟨rfl, trivial⟩ ⟨_, rfl, rfl, he7⟩

-- loop.example/g00861/impl.areNames
def F_impl_areNames_L1 (n : Nat) (a0_list : List ByteArray) (k0 : Int → Option Bool) : Nat → Int → Option Bool
  | 0 => fun _ => none
  | m + 1 => fun i5 => (bif decide (i5 < (a0_list.length : Int)) then (Option.bind (getI a0_list i5) fun x7 => (Option.bind (F_impl_isName n x7) fun r15 => (Option.bind (bif (!r15) then (some true) else (Option.bind (subL a0_list 0 i5) fun z21 => (Option.bind (F_slices_Contains_string_string n z21 x7) fun r25 => (some r25)))) fun c21 => (bif c21 then (some false) else (F_impl_areNames_L1 n a0_list k0 m (IntKind.wrap IntKind.i64 (i5 + 1))))))) else (k0 i5))
theorem F_impl_areNames_L1_z (n : Nat) (a0_list : List ByteArray) (k0 : Int → Option Bool) (i5 : Int) : F_impl_areNames_L1 n a0_list k0 0 i5 = none := rfl
theorem F_impl_areNames_L1_s (m : Nat) (n : Nat) (a0_list : List ByteArray) (k0 : Int → Option Bool) (i5 : Int) : F_impl_areNames_L1 n a0_list k0 (m + 1) i5 = (bif decide (i5 < (a0_list.length : Int)) then (Option.bind (getI a0_list i5) fun x7 => (Option.bind (F_impl_isName n x7) fun r15 => (Option.bind (bif (!r15) then (some true) else (Option.bind (subL a0_list 0 i5) fun z21 => (Option.bind (F_slices_Contains_string_string n z21 x7) fun r25 => (some r25)))) fun c21 => (bif c21 then (some false) else (F_impl_areNames_L1 n a0_list k0 m (IntKind.wrap IntKind.i64 (i5 + 1))))))) else (k0 i5)) := rfl

def F_impl_areNames (n : Nat) (a0_list : List ByteArray) : Option Bool := (F_impl_areNames_L1 n a0_list (fun i5 => (some true)) n 0)
set_option maxHeartbeats 40000000 in
theorem W_impl_areNames {n : Nat} {a0_list : List ByteArray} {r : Bool} {w : World} {v1 : Value} (hF : F_impl_areNames n a0_list = some r) (ha2 : slRep cStr w (Iv 0 w.heap.size) a0_list v1) :
    Calls Tryd.prog 51 [v1].toArray w (Ret fun u w2 => u = .bool r ∧ Ext w w2) := by
  refine calls_of Tryd.func51 rfl Tryd.ntmps51 ?_
  have he0 : Ext w w := Ext.refl w
  unfold F_impl_areNames at hF
  refine WC.seq ?_
  refine WC.region ?_
  refine TL.yld rfl rfl (yld_assign rfl rfl) ?_
  refine TL.done ?_
  refine NX.seq ?_
  refine WC.seq ?_
  refine WC.seq ?_
  refine WC.region ?_
  refine TL.yld rfl rfl (yld_move rfl rfl) ?_
  refine TL.yld rfl rfl (ye_len (c := cStr) rfl Tryd.underlying63 rfl (slRep.old ha2 he0 (Nat.le_refl _))) ?_
  refine TL.yld rfl rfl (yld_move rfl rfl) ?_
  refine TL.done ?_
  refine NX.seq ?_
  refine WC.block ?_
  refine WC.loop (fun m6 a wl => ∃ (i5 : Int), Kn 23 [(0, v1), (5, v1), (6, .int .i64 ((a0_list.length : Int))), (7, .int .i64 i5)] a ∧ Ext w wl ∧ w.heap.size ≤ wl.heap.size ∧ F_impl_areNames_L1 n a0_list (fun i5 => (some true)) m6 i5 = some r) n ?_ ?_
  · intro a hK; exact ⟨0, hK.weaken ⟨rfl, rfl, rfl, rfl, trivial⟩, he0, Nat.le_refl _, hF⟩
  · rintro m6 a w3 ⟨i5, hK, he4, hz7, hF⟩
    revert hK; revert a; refine (?_ : WC _ _ _ _ _ _)
    cases m6 with
    | zero => rw [F_impl_areNames_L1_z] at hF; cases hF
    | succ m6 =>
      rw [F_impl_areNames_L1_s] at hF
      refine WC.seq ?_
      refine WC.region ?_
      refine TL.yld rfl rfl (yld_lss rfl rfl rfl) ?_
      refine TL.done ?_
      refine NX.seq ?_
      refine WC.seq ?_
      refine WC.cond rfl ?_ ?_
      · intro hc8
        replace hF := bif_t hc8 hF
        refine WC.skip' ?_
        refine NX.seq ?_
        refine WC.seq ?_
        refine WC.block ?_
        refine WC.seq ?_
        refine WC.region ?_
        refine TL.yld rfl rfl (yld_move rfl rfl) ?_
        obtain ⟨x9, hy10, hF⟩ := bsome hF
        refine TL.ye rfl rfl (ye_index (c := cStr) rfl Tryd.underlying63 cn_9 rfl rfl (slRep.old ha2 he4 (Nat.le_refl _)) hy10) ?_
        rintro _ ⟨b11, o12, us13, rfl, hib16, hr14, hcl15⟩
        have hib16 : 0 ≤ b11 ∧ b11 < w.heap.size := ⟨hib16.1, by have := hib16.2; omega⟩
        obtain rfl := hr14
        refine TL.yld rfl rfl (yld_load1 0 rfl ag_9 rfl hcl15 rfl rfl) ?_
        refine TL.yld rfl rfl (yld_assign rfl rfl) ?_
        refine TL.yld rfl rfl (yld_assign rfl rfl) ?_
        refine TL.done ?_
        refine NX.seq ?_
        refine WC.seq ?_
        refine WC.region ?_
        refine TL.yld rfl rfl (yld_move rfl rfl) ?_
        obtain ⟨r17, hr18, hF⟩ := bsome hF
        refine TL.eff rfl rfl (eff_call rfl gf_74 rfl (W_impl_isName hr18)) ?_
        rintro _ w19 ⟨rfl, hx20⟩
        have he21 : Ext w w19 := Ext.trans he4 hx20
        have hz22 := (hx20).size
        refine TL.yld rfl rfl (yld_not rfl rfl) ?_
        refine TL.yld rfl rfl (yld_move rfl rfl) ?_
        obtain ⟨c23, hb24, hF⟩ := bsome hF
        refine TL.cut 6 [(0, v1), (5, v1), (6, .int .i64 ((a0_list.length : Int))), (7, .int .i64 i5), (21, .bool c23)] (fun w' => Ext w19 w') ?_ ?_
        · rcases Bool.eq_false_or_eq_true (!r17) with hg25 | hg25
          ·
            rw [hg25] at hb24; simp only [cond_true, cond_false] at hb24
            refine TL.gnu (j := 3) (t := 15) rfl rfl rfl hg25 rfl ?_
            refine TL.gnu (j := 3) (t := 15) rfl rfl rfl hg25 rfl ?_
            refine TL.gnu (j := 3) (t := 15) rfl rfl rfl hg25 rfl ?_
            refine TL.gnu (j := 3) (t := 15) rfl rfl rfl hg25 rfl ?_
            refine TL.gnu (j := 3) (t := 15) rfl rfl rfl hg25 rfl ?_
            obtain rfl := Option.some.inj hb24
            refine TL.yld rfl rfl (yld_pick_t rfl rfl hg25 rfl) ?_
            exact TL.nil fun a h => ⟨h.weaken ⟨rfl, rfl, rfl, rfl, rfl, trivial⟩, Ext.refl _⟩
          ·
            rw [hg25] at hb24; simp only [cond_true, cond_false] at hb24
            replace hF := hb24
            refine TL.gy (j := 3) (t := 15) rfl rfl rfl hg25 rfl (yld_move rfl rfl) ?_
            refine TL.gy (j := 3) (t := 15) rfl rfl rfl hg25 rfl (yld_move rfl rfl) ?_
            obtain ⟨z26, hz27, hF⟩ := bsome hF
            refine TL.yeg (j := 3) (t := 15) rfl rfl rfl hg25 rfl (ye_slice_to (c := cStr) rfl Tryd.underlying63 cn_9 rfl rfl (slRep.old ha2 he21 (Nat.le_refl _)) hz27) ?_
            rintro v28 hs29
            refine TL.gy (j := 3) (t := 15) rfl rfl rfl hg25 rfl (yld_move rfl rfl) ?_
            obtain ⟨r30, hr31, hF⟩ := bsome hF
            refine TL.ge (j := 3) (t := 15) rfl rfl rfl hg25 rfl (eff_call rfl gf_75 rfl (W_slices_Contains_string_string hr31 (hs29.wide (Nat.zero_le _) (by omega)))) ?_
            rintro _ w32 ⟨rfl, hx33⟩
            have he34 : Ext w w32 := Ext.trans he21 hx33
            have hs29 := slRep.old hs29 hx33 (by omega)
            have hz35 := (hx33).size
            obtain rfl := Option.some.inj hF
            refine TL.yld rfl rfl (yld_pick_f rfl rfl hg25 rfl) ?_
            exact TL.nil fun a h => ⟨h.weaken ⟨rfl, rfl, rfl, rfl, rfl, trivial⟩, hx33⟩
        intro w36 hx37
        have he38 : Ext w w36 := Ext.trans he21 hx37
        have hz39 := (hx37).size
        refine TL.done ?_
        refine NX.seq ?_
        refine WC.cond rfl ?_ ?_
        · intro hc40
          replace hF := bif_t hc40 hF
          refine WC.seq ?_
          refine WC.region ?_
          refine TL.yld rfl rfl (yld_assign rfl rfl) ?_
          refine TL.done ?_
          refine NX.seq ?_
          refine WC.ret' ?_
          refine NX.blk_r ?_
          refine NX.then_r ?_
          refine NX.then_r ?_
          refine NX.blk_r ?_
          refine NX.then_r ?_
          obtain rfl := Option.some.inj hF
          exact NX.end (rs := [.tmp 2]) (vs := [.bool false]) rfl ⟨rfl, trivial⟩ ⟨_, rfl, rfl, he38⟩
        · intro hc41
          replace hF := bif_f hc41 hF
          refine WC.skip' ?_
          refine NX.blk_n ?_
          refine NX.seq ?_
          refine WC.region ?_
          refine TL.yld rfl rfl (yld_add rfl rfl rfl) ?_
          refine TL.yld rfl rfl (yld_move rfl rfl) ?_
          refine TL.done ?_
          refine NX.then_n ?_
          intro a hK; exact ⟨m6, Nat.lt_succ_self m6, (IntKind.wrap IntKind.i64 (i5 + 1)), hK.weaken ⟨rfl, rfl, rfl, rfl, trivial⟩, he38, (by omega), hF⟩
      · intro hc42
        replace hF := bif_f hc42 hF
        refine WC.exit' ?_
        refine NX.then_e ?_
        refine NX.then_e ?_
        refine NX.blk_hit ?_
        refine NX.seq ?_
        refine WC.seq ?_
        refine WC.region ?_
        refine TL.yld rfl rfl (yld_assign rfl rfl) ?_
        refine TL.done ?_
        refine NX.seq ?_
        refine WC.ret' ?_
        obtain rfl := Option.some.inj hF
        exact NX.end (rs := [.tmp 2]) (vs := [.bool true]) rfl ⟨rfl, trivial⟩ ⟨_, rfl, rfl, he4⟩

-- loop.example/g00861/impl.IsClocks
def F_impl_IsClocks_L1 (n : Nat) (a0_list : List S_Clock) (k0 : (List ByteArray) → Int → Option Bool) : Nat → (List ByteArray) → Int → Option Bool
  | 0 => fun _ _ => none
  | m + 1 => fun l10 i14 => (bif decide (i14 < (a0_list.length : Int)) then (Option.bind (getI a0_list i14) fun x16 => (Option.bind (F_impl_isClock n a0_list i14) fun r36 => (bif (!r36) then (some false) else (Option.bind (appN l10 [x16.Name] 16) fun z57 => (F_impl_IsClocks_L1 n a0_list k0 m z57 (IntKind.wrap IntKind.i64 (i14 + 1))))))) else (k0 l10 i14))
theorem F_impl_IsClocks_L1_z (n : Nat) (a0_list : List S_Clock) (k0 : (List ByteArray) → Int → Option Bool) (l10 : List ByteArray) (i14 : Int) : F_impl_IsClocks_L1 n a0_list k0 0 l10 i14 = none := rfl
theorem F_impl_IsClocks_L1_s (m : Nat) (n : Nat) (a0_list : List S_Clock) (k0 : (List ByteArray) → Int → Option Bool) (l10 : List ByteArray) (i14 : Int) : F_impl_IsClocks_L1 n a0_list k0 (m + 1) l10 i14 = (bif decide (i14 < (a0_list.length : Int)) then (Option.bind (getI a0_list i14) fun x16 => (Option.bind (F_impl_isClock n a0_list i14) fun r36 => (bif (!r36) then (some false) else (Option.bind (appN l10 [x16.Name] 16) fun z57 => (F_impl_IsClocks_L1 n a0_list k0 m z57 (IntKind.wrap IntKind.i64 (i14 + 1))))))) else (k0 l10 i14)) := rfl

def F_impl_IsClocks (n : Nat) (a0_list : List S_Clock) : Option Bool := (bif decide ((a0_list.length : Int) > 6) then (some false) else (F_impl_IsClocks_L1 n a0_list (fun l10 i14 => (Option.bind (F_impl_areNames n l10) fun r15 => (some r15))) n (([] : List ByteArray)) 0))
set_option maxHeartbeats 40000000 in
theorem W_impl_IsClocks {n : Nat} {a0_list : List S_Clock} {r : Bool} {w : World} {v1 : Value} (hF : F_impl_IsClocks n a0_list = some r) (ha2 : slRep C_Clock w (Iv 0 w.heap.size) a0_list v1) :
    Calls Tryd.prog 18 [v1].toArray w (Ret fun u w2 => u = .bool r ∧ Ext w w2) := by
  refine calls_of Tryd.func18 rfl Tryd.ntmps18 ?_
  have he0 : Ext w w := Ext.refl w
  unfold F_impl_IsClocks at hF
  refine WC.seq ?_
  refine WC.region ?_
  refine TL.yld rfl rfl (yld_assign rfl rfl) ?_
  refine TL.done ?_
  refine NX.seq ?_
  refine WC.seq ?_
  refine WC.seq ?_
  refine WC.region ?_
  refine TL.yld rfl rfl (yld_move rfl rfl) ?_
  refine TL.yld rfl rfl (ye_len (c := C_Clock) rfl Tryd.underlying25 rfl (slRep.old ha2 he0 (Nat.le_refl _))) ?_
  refine TL.yld rfl rfl (yld_gtr rfl rfl rfl) ?_
  refine TL.done ?_
  refine NX.seq ?_
  refine WC.cond rfl ?_ ?_
  · intro hc3
    replace hF := bif_t hc3 hF
    refine WC.seq ?_
    refine WC.region ?_
    refine TL.yld rfl rfl (yld_assign rfl rfl) ?_
    refine TL.done ?_
    refine NX.seq ?_
    refine WC.ret' ?_
    refine NX.then_r ?_
    obtain rfl := Option.some.inj hF
    exact NX.end (rs := [.tmp 2]) (vs := [.bool false]) rfl ⟨rfl, trivial⟩ ⟨_, rfl, rfl, he0⟩
  · intro hc4
    replace hF := bif_f hc4 hF
    refine WC.skip' ?_
    refine NX.seq ?_
    refine WC.seq ?_
    refine WC.region ?_
    refine TL.yld rfl rfl (yld_assign rfl rfl) ?_
    refine TL.done ?_
    refine NX.seq ?_
    refine WC.seq ?_
    refine WC.seq ?_
    refine WC.region ?_
    refine TL.yld rfl rfl (yld_move rfl rfl) ?_
    refine TL.yld rfl rfl (ye_len (c := C_Clock) rfl Tryd.underlying25 rfl (slRep.old ha2 he0 (Nat.le_refl _))) ?_
    refine TL.yld rfl rfl (yld_move rfl rfl) ?_
    refine TL.done ?_
    refine NX.seq ?_
    refine WC.block ?_
    have hs7 : ownR cStr w (w.heap.size) (Iv 0 0) 9 [] (.slice none 0 0) := ownR.nil _ _ _ _ _
    have hbd8 : ∀ q, (Value.slice none 0 0).ownBlock = some q → w.heap.size ≤ q ∧ q < w.heap.size := bd_nil
    refine WC.loop (fun m15 a wl => ∃ (l10 : List ByteArray) (v11 : Value) (i14 : Int), Kn 28 [(0, v1), (3, v11), (9, v1), (10, .int .i64 ((a0_list.length : Int))), (11, .int .i64 i14)] a ∧ Ext w wl ∧ w.heap.size ≤ wl.heap.size ∧ ownR cStr wl (w.heap.size) (Iv 0 0) 9 l10 v11 ∧ (∀ q, v11.ownBlock = some q → w.heap.size ≤ q ∧ q < wl.heap.size) ∧ F_impl_IsClocks_L1 n a0_list (fun l10 i14 => (Option.bind (F_impl_areNames n l10) fun r15 => (some r15))) m15 l10 i14 = some r) n ?_ ?_
    · intro a hK; exact ⟨(([] : List ByteArray)), ((.slice none 0 0)), 0, hK.weaken ⟨rfl, rfl, rfl, rfl, rfl, trivial⟩, he0, Nat.le_refl _, hs7, (fun g hg => by have := hbd8 g hg; omega), hF⟩
    · rintro m15 a w5 ⟨l10, v11, i14, hK, he6, hz16, hs12, hbd13, hF⟩
      revert hK; revert a; refine (?_ : WC _ _ _ _ _ _)
      cases m15 with
      | zero => rw [F_impl_IsClocks_L1_z] at hF; cases hF
      | succ m15 =>
        rw [F_impl_IsClocks_L1_s] at hF
        refine WC.seq ?_
        refine WC.region ?_
        refine TL.yld rfl rfl (yld_lss rfl rfl rfl) ?_
        refine TL.done ?_
        refine NX.seq ?_
        refine WC.seq ?_
        refine WC.cond rfl ?_ ?_
        · intro hc17
          replace hF := bif_t hc17 hF
          refine WC.skip' ?_
          refine NX.seq ?_
          refine WC.seq ?_
          refine WC.block ?_
          refine WC.seq ?_
          refine WC.region ?_
          refine TL.yld rfl rfl (yld_move rfl rfl) ?_
          obtain ⟨x18, hy19, hF⟩ := bsome hF
          refine TL.ye rfl rfl (ye_index (c := C_Clock) rfl Tryd.underlying25 cn_45 rfl rfl (slRep.old ha2 he6 (Nat.le_refl _)) hy19) ?_
          rintro _ ⟨b20, o21, us22, rfl, hib25, hr23, hcl24⟩
          have hib25 : 0 ≤ b20 ∧ b20 < w.heap.size := ⟨hib25.1, by have := hib25.2; omega⟩
          obtain rfl := C_Clock_open hr23
          refine TL.yld rfl rfl (yld_loadN (us := [.string x18.Name, .int .i64 x18.Place, .int .i64 x18.Period, .int .i64 x18.RiseAt, .int .i64 x18.FallAt, .int .i64 x18.Source, .int .i64 x18.Divide, .bool x18.Invert, .int .i64 x18.EarlyLatency, .int .i64 x18.LateLatency, .int .i64 x18.Uncertainty]) rfl ag_45 rfl hcl24 cn_45) ?_
          refine TL.eff rfl rfl (eff_alloc rfl zn_45) ?_
          rintro _ w27 ⟨b26, rfl, hn28⟩
          obtain ⟨hn28e, hn28s, hn28x, hb29⟩ := hn28
          have hb29 : Box w27 b26 [.string ByteArray.empty, .int .i64 0, .int .i64 0, .int .i64 0, .int .i64 0, .int .i64 0, .int .i64 0, .bool false, .int .i64 0, .int .i64 0, .int .i64 0] 45 := hb29
          have he31 : Ext w w27 := Ext.trans he6 hn28x
          have hs12 := ownR.ext hs12 hn28x
          have hz32 := (hn28x).size
          have hlo30 : w.heap.size ≤ b26 := by rw [hn28e]; exact (he6).size
          refine TL.yld rfl rfl (yld_assign rfl rfl) ?_
          refine TL.eff rfl rfl (eff_store rfl rfl rfl hb29 cn_45 rfl rfl) ?_
          rintro _ w33 ⟨hu34, hb35⟩
          have he36 : Ext w w33 := Below.trans he31 (Upd.below hu34 (by omega))
          have hs12 := ownR.upd hs12 hu34 (fun g hg => by have := hbd13 g hg; omega)
          have hz37 := (hu34).size
          have hb29 : Box w33 b26 [.string x18.Name, .int .i64 x18.Place, .int .i64 x18.Period, .int .i64 x18.RiseAt, .int .i64 x18.FallAt, .int .i64 x18.Source, .int .i64 x18.Divide, .bool x18.Invert, .int .i64 x18.EarlyLatency, .int .i64 x18.LateLatency, .int .i64 x18.Uncertainty] 45 := hb35
          refine TL.done ?_
          refine NX.seq ?_
          refine WC.seq ?_
          refine WC.seq ?_
          refine WC.region ?_
          refine TL.yld rfl rfl (yld_move rfl rfl) ?_
          refine TL.yld rfl rfl (yld_move rfl rfl) ?_
          obtain ⟨r38, hr39, hF⟩ := bsome hF
          refine TL.eff rfl rfl (eff_call rfl gf_50 rfl (W_impl_isClock hr39 ((slRep.old ha2 he36 (Nat.le_refl _)).wide (Nat.le_refl _) (he36).size))) ?_
          rintro _ w40 ⟨rfl, hx41⟩
          have he42 : Ext w w40 := Ext.trans he36 hx41
          have hb29 := Box.ext hb29 hx41
          have hs12 := ownR.ext hs12 hx41
          have hz43 := (hx41).size
          refine TL.yld rfl rfl (yld_not rfl rfl) ?_
          refine TL.done ?_
          refine NX.seq ?_
          refine WC.cond rfl ?_ ?_
          · intro hc44
            replace hF := bif_t hc44 hF
            refine WC.seq ?_
            refine WC.region ?_
            refine TL.yld rfl rfl (yld_assign rfl rfl) ?_
            refine TL.done ?_
            refine NX.seq ?_
            refine WC.ret' ?_
            refine NX.then_r ?_
            refine NX.blk_r ?_
            refine NX.then_r ?_
            refine NX.then_r ?_
            refine NX.blk_r ?_
            refine NX.then_r ?_
            obtain rfl := Option.some.inj hF
            exact NX.end (rs := [.tmp 2]) (vs := [.bool false]) rfl ⟨rfl, trivial⟩ ⟨_, rfl, rfl, he42⟩
          · intro hc45
            replace hF := bif_f hc45 hF
            refine WC.skip' ?_
            refine NX.seq ?_
            refine WC.region ?_
            refine TL.yld rfl rfl (yld_move rfl rfl) ?_
            refine TL.yld rfl rfl (yld_fieldAddr rfl fo_45_0 rfl) ?_
            refine TL.yld rfl rfl (yld_load1 0 rfl ag_9 rfl (Box.cells hb29) rfl rfl) ?_
            refine TL.eff rfl rfl (eff_buildSlice (c := cStr) (xs := [x18.Name]) (S := (Iv 0 0)) (uss := [(0, [.string x18.Name])]) (out := [.string x18.Name]) rfl Tryd.underlying63 in_9 rfl rfl (fillL_all [[.string x18.Name]] rfl rfl rfl) rfl rfl rfl rfl (one_rep (uss := [[.string x18.Name]]) (show reps _ _ _ _ _ from ⟨rfl, trivial⟩) rfl) (fun k h => by have := h.2; omega) rfl) ?_
            rintro v46 w47 ⟨g48, hv49, hg50, hz51, hx52, hs53⟩
            have he54 : Ext w w47 := Ext.trans he42 hx52
            have hb29 := Box.ext hb29 hx52
            have hs12 := ownR.ext hs12 hx52
            have hz55 := (hx52).size
            have hlo56 : w.heap.size ≤ g48 := by rw [hg50]; exact (he42).size
            have hbd57 := bd_of hv49
            clear hv49
            obtain ⟨z59, ha60, hF⟩ := bsome hF
            refine TL.eff rfl rfl (eff_appendF (c := cStr) rfl Tryd.underlying63 in_9 rfl rfl rfl rfl rfl hs12 (by omega) (ownR.slf hs53 (Nat.le_refl _) (Nat.le_refl _)) ha60) ?_
            rintro v61 w62 ⟨hs63, hgr64⟩
            have he66 : Ext w w62 := Below.trans he54 (Grew.low hgr64 (fun g hg => by have := hbd13 g hg; omega) (he54).size)
            have hp67 : ∀ g, v61.ownBlock = some g → g ≠ b26 := Grew.sepP (p := fun g => g ≠ b26) hgr64 (fun g hg => by have := hbd13 g hg; omega) (fun g hg => by omega)
            have hb29 := Grew.box hgr64 hb29 (fun g hg => by have := hbd13 g hg; omega)
            have hp68 : ∀ g q, v11.ownBlock = some g → v46.ownBlock = some q → g ≠ q := (fun g q hg hq => by have := hbd13 g hg; have := hbd57 q hq; omega)
            have hp69 : ∀ g q, v61.ownBlock = some g → v46.ownBlock = some q → g ≠ q := fun g q hg hq => Grew.sepP (p := fun g => ∀ q, v46.ownBlock = some q → g ≠ q) hgr64 (fun g hg q hq => (hp68) g q hg hq) (fun g hg q hq => by have := hbd57 q hq; omega) g hg q hq
            have hs53 := Grew.ownF hgr64 hs53 hp68
            have hz70 := (hgr64).1.size
            have hbd71 : ∀ g, v61.ownBlock = some g → w.heap.size ≤ g ∧ g < w62.heap.size := Grew.bd hgr64 hs63 (fun g hg => ⟨by have := hbd13 g hg; omega, (hbd13 g hg).2⟩) (by omega) (by omega)
            refine TL.yld rfl rfl (yld_assign rfl rfl) ?_
            refine TL.done ?_
            refine NX.blk_n ?_
            refine NX.seq ?_
            refine WC.region ?_
            refine TL.yld rfl rfl (yld_add rfl rfl rfl) ?_
            refine TL.yld rfl rfl (yld_move rfl rfl) ?_
            refine TL.done ?_
            refine NX.then_n ?_
            intro a hK; exact ⟨m15, Nat.lt_succ_self m15, z59, v61, (IntKind.wrap IntKind.i64 (i14 + 1)), hK.weaken ⟨rfl, rfl, rfl, rfl, rfl, trivial⟩, he66, (by omega), hs63, (fun g hg => by have := hbd71 g hg; omega), hF⟩
        · intro hc72
          replace hF := bif_f hc72 hF
          refine WC.exit' ?_
          refine NX.then_e ?_
          refine NX.then_e ?_
          refine NX.blk_hit ?_
          refine NX.seq ?_
          refine WC.seq ?_
          refine WC.region ?_
          refine TL.yld rfl rfl (yld_move rfl rfl) ?_
          obtain ⟨r73, hr74, hF⟩ := bsome hF
          refine TL.eff rfl rfl (eff_call rfl gf_51 rfl (W_impl_areNames hr74 (ownR.slf hs12 (Nat.zero_le _) (Nat.le_refl _)))) ?_
          rintro _ w75 ⟨rfl, hx76⟩
          have he77 : Ext w w75 := Ext.trans he6 hx76
          have hs12 := ownR.ext hs12 hx76
          have hz78 := (hx76).size
          refine TL.yld rfl rfl (yld_assign rfl rfl) ?_
          refine TL.done ?_
          refine NX.seq ?_
          refine WC.ret' ?_
          obtain rfl := Option.some.inj hF
          exact NX.end (rs := [.tmp 2]) (vs := [.bool r73]) rfl ⟨rfl, trivial⟩ ⟨_, rfl, rfl, he77⟩

-- loop.example/g00861/impl.areWithin$1
def F_impl_areWithin_1 (n : Nat) (a0_n : Int) (a1_c : Int) (a2_c : Int) : Option Bool := (Option.bind (F_impl_within n a0_n a1_c a2_c) fun r3 => (some (!r3)))
set_option maxHeartbeats 40000000 in
theorem W_impl_areWithin_1 {n : Nat} {a0_n : Int} {a1_c : Int} {a2_c : Int} {r : Bool} {w : World} {b1_ : Nat} {b2_ : Nat} (hF : F_impl_areWithin_1 n a0_n a1_c a2_c = some r) (hb1 : Box w b1_ [.int .i64 a1_c] 2) (hb2 : Box w b2_ [.int .i64 a2_c] 2) :
    Calls Tryd.prog 86 [.int .i64 a0_n, .pointer (some ⟨b1_, 0, none⟩), .pointer (some ⟨b2_, 0, none⟩)].toArray w (Ret fun u w2 => u = .bool r ∧ Ext w w2) := by
  refine calls_of Tryd.func86 rfl Tryd.ntmps86 ?_
  have he0 : Ext w w := Ext.refl w
  have := Box.lt hb1
  have := Box.lt hb2
  unfold F_impl_areWithin_1 at hF
  refine WC.seq ?_
  refine WC.region ?_
  refine TL.yld rfl rfl (yld_assign rfl rfl) ?_
  refine TL.done ?_
  refine NX.seq ?_
  refine WC.seq ?_
  refine WC.region ?_
  refine TL.yld rfl rfl (yld_move rfl rfl) ?_
  refine TL.yld rfl rfl (yld_load1 0 rfl ag_2 rfl (Box.cells hb1) rfl rfl) ?_
  refine TL.yld rfl rfl (yld_load1 0 rfl ag_2 rfl (Box.cells hb2) rfl rfl) ?_
  obtain ⟨r3, hr4, hF⟩ := bsome hF
  refine TL.eff rfl rfl (eff_call rfl gf_72 rfl (W_impl_within hr4)) ?_
  rintro _ w5 ⟨rfl, hx6⟩
  have he7 : Ext w w5 := Ext.trans he0 hx6
  have hb1 := Box.ext hb1 hx6
  have hb2 := Box.ext hb2 hx6
  have hz8 := (hx6).size
  refine TL.yld rfl rfl (yld_not rfl rfl) ?_
  refine TL.yld rfl rfl (yld_assign rfl rfl) ?_
  refine TL.done ?_
  refine NX.seq ?_
  refine WC.ret' ?_
  obtain rfl := Option.some.inj hF
  exact NX.end (rs := [.tmp 4]) (vs := [.bool (!r3)]) rfl ⟨rfl, trivial⟩ ⟨_, rfl, rfl, he7⟩

-- slices.IndexFunc[[]int64,int64]
def F_slices_IndexFunc_int64_int64_on_impl_areWithin_1_L1 (n : Nat) (a0_s : List Int) (a1c0_c : Int) (a1c1_c : Int) (k0 : Int → Option Int) : Nat → Int → Option Int
  | 0 => fun _ => none
  | m + 1 => fun i7 => (bif decide (i7 < (a0_s.length : Int)) then (Option.bind (getI a0_s i7) fun x11 => (Option.bind (F_impl_areWithin_1 n x11 a1c0_c a1c1_c) fun r19 => (bif r19 then (some i7) else (F_slices_IndexFunc_int64_int64_on_impl_areWithin_1_L1 n a0_s a1c0_c a1c1_c k0 m (IntKind.wrap IntKind.i64 (i7 + 1)))))) else (k0 i7))
theorem F_slices_IndexFunc_int64_int64_on_impl_areWithin_1_L1_z (n : Nat) (a0_s : List Int) (a1c0_c : Int) (a1c1_c : Int) (k0 : Int → Option Int) (i7 : Int) : F_slices_IndexFunc_int64_int64_on_impl_areWithin_1_L1 n a0_s a1c0_c a1c1_c k0 0 i7 = none := rfl
theorem F_slices_IndexFunc_int64_int64_on_impl_areWithin_1_L1_s (m : Nat) (n : Nat) (a0_s : List Int) (a1c0_c : Int) (a1c1_c : Int) (k0 : Int → Option Int) (i7 : Int) : F_slices_IndexFunc_int64_int64_on_impl_areWithin_1_L1 n a0_s a1c0_c a1c1_c k0 (m + 1) i7 = (bif decide (i7 < (a0_s.length : Int)) then (Option.bind (getI a0_s i7) fun x11 => (Option.bind (F_impl_areWithin_1 n x11 a1c0_c a1c1_c) fun r19 => (bif r19 then (some i7) else (F_slices_IndexFunc_int64_int64_on_impl_areWithin_1_L1 n a0_s a1c0_c a1c1_c k0 m (IntKind.wrap IntKind.i64 (i7 + 1)))))) else (k0 i7)) := rfl

def F_slices_IndexFunc_int64_int64_on_impl_areWithin_1 (n : Nat) (a0_s : List Int) (a1c0_c : Int) (a1c1_c : Int) : Option Int := (F_slices_IndexFunc_int64_int64_on_impl_areWithin_1_L1 n a0_s a1c0_c a1c1_c (fun i7 => (some (-1))) n 0)
set_option maxHeartbeats 40000000 in
theorem W_slices_IndexFunc_int64_int64_on_impl_areWithin_1 {n : Nat} {a0_s : List Int} {a1c0_c : Int} {a1c1_c : Int} {r : Int} {w : World} {v1 : Value} {b1c0_ : Nat} {b1c1_ : Nat} (hF : F_slices_IndexFunc_int64_int64_on_impl_areWithin_1 n a0_s a1c0_c a1c1_c = some r) (ha2 : slRep (cInt .i64) w (Iv 0 w.heap.size) a0_s v1) (hb3 : Box w b1c0_ [.int .i64 a1c0_c] 2) (hb4 : Box w b1c1_ [.int .i64 a1c1_c] 2) :
    Calls Tryd.prog 95 [v1, .func (.func 86) #[] [.pointer (some ⟨b1c0_, 0, none⟩), .pointer (some ⟨b1c1_, 0, none⟩)].toArray].toArray w (Ret fun u w2 => u = .int .i64 r ∧ Ext w w2) := by
  refine calls_of Tryd.func95 rfl Tryd.ntmps95 ?_
  have he0 : Ext w w := Ext.refl w
  have := Box.lt hb3
  have := Box.lt hb4
  unfold F_slices_IndexFunc_int64_int64_on_impl_areWithin_1 at hF
  refine WC.seq ?_
  refine WC.region ?_
  refine TL.yld rfl rfl (yld_assign rfl rfl) ?_
  refine TL.done ?_
  refine NX.seq ?_
  refine WC.seq ?_
  refine WC.seq ?_
  refine WC.region ?_
  refine TL.yld rfl rfl (yld_move rfl rfl) ?_
  refine TL.yld rfl rfl (ye_len (c := (cInt .i64)) rfl Tryd.underlying46 rfl (slRep.old ha2 he0 (Nat.le_refl _))) ?_
  refine TL.yld rfl rfl (yld_move rfl rfl) ?_
  refine TL.done ?_
  refine NX.seq ?_
  refine WC.block ?_
  refine WC.loop (fun m10 a wl => ∃ (i7 : Int), Kn 19 [(0, v1), (1, .func (.func 86) #[] [.pointer (some ⟨b1c0_, 0, none⟩), .pointer (some ⟨b1c1_, 0, none⟩)].toArray), (7, .int .i64 ((a0_s.length : Int))), (8, .int .i64 i7)] a ∧ Ext w wl ∧ w.heap.size ≤ wl.heap.size ∧ Box wl b1c0_ [.int .i64 a1c0_c] 2 ∧ Box wl b1c1_ [.int .i64 a1c1_c] 2 ∧ F_slices_IndexFunc_int64_int64_on_impl_areWithin_1_L1 n a0_s a1c0_c a1c1_c (fun i7 => (some (-1))) m10 i7 = some r) n ?_ ?_
  · intro a hK; exact ⟨0, hK.weaken ⟨rfl, rfl, rfl, rfl, trivial⟩, he0, Nat.le_refl _, hb3, hb4, hF⟩
  · rintro m10 a w5 ⟨i7, hK, he6, hz11, hb8, hb9, hF⟩
    revert hK; revert a; refine (?_ : WC _ _ _ _ _ _)
    cases m10 with
    | zero => rw [F_slices_IndexFunc_int64_int64_on_impl_areWithin_1_L1_z] at hF; cases hF
    | succ m10 =>
      rw [F_slices_IndexFunc_int64_int64_on_impl_areWithin_1_L1_s] at hF
      refine WC.seq ?_
      refine WC.region ?_
      refine TL.yld rfl rfl (yld_lss rfl rfl rfl) ?_
      refine TL.done ?_
      refine NX.seq ?_
      refine WC.seq ?_
      refine WC.cond rfl ?_ ?_
      · intro hc12
        replace hF := bif_t hc12 hF
        refine WC.skip' ?_
        refine NX.seq ?_
        refine WC.seq ?_
        refine WC.block ?_
        refine WC.seq ?_
        refine WC.region ?_
        refine TL.yld rfl rfl (yld_move rfl rfl) ?_
        refine TL.yld rfl rfl (yld_assign rfl rfl) ?_
        refine TL.done ?_
        refine NX.seq ?_
        refine WC.seq ?_
        refine WC.region ?_
        refine TL.yld rfl rfl (yld_move rfl rfl) ?_
        refine TL.yld rfl rfl (yld_move rfl rfl) ?_
        refine TL.yld rfl rfl (yld_move rfl rfl) ?_
        obtain ⟨x13, hy14, hF⟩ := bsome hF
        refine TL.ye rfl rfl (ye_index (c := (cInt .i64)) rfl Tryd.underlying46 cn_2 rfl rfl (slRep.old ha2 he6 (Nat.le_refl _)) hy14) ?_
        rintro _ ⟨b15, o16, us17, rfl, hib20, hr18, hcl19⟩
        have hib20 : 0 ≤ b15 ∧ b15 < w.heap.size := ⟨hib20.1, by have := hib20.2; omega⟩
        obtain rfl := hr18
        refine TL.yld rfl rfl (yld_load1 0 rfl ag_2 rfl hcl19 rfl rfl) ?_
        obtain ⟨r21, hr22, hF⟩ := bsome hF
        refine TL.eff rfl rfl (eff_callv rfl gf_86 rfl rfl (W_impl_areWithin_1 hr22 hb8 hb9)) ?_
        rintro _ w23 ⟨rfl, hx24⟩
        have he25 : Ext w w23 := Ext.trans he6 hx24
        have hb8 := Box.ext hb8 hx24
        have hb9 := Box.ext hb9 hx24
        have hz26 := (hx24).size
        refine TL.done ?_
        refine NX.seq ?_
        refine WC.cond rfl ?_ ?_
        · intro hc27
          replace hF := bif_t hc27 hF
          refine WC.seq ?_
          refine WC.region ?_
          refine TL.yld rfl rfl (yld_move rfl rfl) ?_
          refine TL.yld rfl rfl (yld_assign rfl rfl) ?_
          refine TL.done ?_
          refine NX.seq ?_
          refine WC.ret' ?_
          refine NX.blk_r ?_
          refine NX.then_r ?_
          refine NX.then_r ?_
          refine NX.blk_r ?_
          refine NX.then_r ?_
          obtain rfl := Option.some.inj hF
          exact NX.end (rs := [.tmp 4]) (vs := [.int .i64 i7]) rfl ⟨rfl, trivial⟩ ⟨_, rfl, rfl, he25⟩
        · intro hc28
          replace hF := bif_f hc28 hF
          refine WC.skip' ?_
          refine NX.blk_n ?_
          refine NX.seq ?_
          refine WC.region ?_
          refine TL.yld rfl rfl (yld_add rfl rfl rfl) ?_
          refine TL.yld rfl rfl (yld_move rfl rfl) ?_
          refine TL.done ?_
          refine NX.then_n ?_
          intro a hK; exact ⟨m10, Nat.lt_succ_self m10, (IntKind.wrap IntKind.i64 (i7 + 1)), hK.weaken ⟨rfl, rfl, rfl, rfl, trivial⟩, he25, (by omega), hb8, hb9, hF⟩
      · intro hc29
        replace hF := bif_f hc29 hF
        refine WC.exit' ?_
        refine NX.then_e ?_
        refine NX.then_e ?_
        refine NX.blk_hit ?_
        refine NX.seq ?_
        refine WC.seq ?_
        refine WC.region ?_
        refine TL.yld rfl rfl (yld_assign rfl rfl) ?_
        refine TL.done ?_
        refine NX.seq ?_
        refine WC.ret' ?_
        obtain rfl := Option.some.inj hF
        exact NX.end (rs := [.tmp 4]) (vs := [.int .i64 (-1)]) rfl ⟨rfl, trivial⟩ ⟨_, rfl, rfl, he6⟩

-- slices.ContainsFunc[[]int64,int64]
def F_slices_ContainsFunc_int64_int64_on_impl_areWithin_1 (n : Nat) (a0_s : List Int) (a1c0_c : Int) (a1c1_c : Int) : Option Bool := (Option.bind (F_slices_IndexFunc_int64_int64_on_impl_areWithin_1 n a0_s a1c0_c a1c1_c) fun r5 => (some (decide (r5 ≥ 0))))
set_option maxHeartbeats 40000000 in
theorem W_slices_ContainsFunc_int64_int64_on_impl_areWithin_1 {n : Nat} {a0_s : List Int} {a1c0_c : Int} {a1c1_c : Int} {r : Bool} {w : World} {v1 : Value} {b1c0_ : Nat} {b1c1_ : Nat} (hF : F_slices_ContainsFunc_int64_int64_on_impl_areWithin_1 n a0_s a1c0_c a1c1_c = some r) (ha2 : slRep (cInt .i64) w (Iv 0 w.heap.size) a0_s v1) (hb3 : Box w b1c0_ [.int .i64 a1c0_c] 2) (hb4 : Box w b1c1_ [.int .i64 a1c1_c] 2) :
    Calls Tryd.prog 85 [v1, .func (.func 86) #[] [.pointer (some ⟨b1c0_, 0, none⟩), .pointer (some ⟨b1c1_, 0, none⟩)].toArray].toArray w (Ret fun u w2 => u = .bool r ∧ Ext w w2) := by
  refine calls_of Tryd.func85 rfl Tryd.ntmps85 ?_
  have he0 : Ext w w := Ext.refl w
  have := Box.lt hb3
  have := Box.lt hb4
  unfold F_slices_ContainsFunc_int64_int64_on_impl_areWithin_1 at hF
  refine WC.seq ?_
  refine WC.region ?_
  refine TL.yld rfl rfl (yld_assign rfl rfl) ?_
  refine TL.done ?_
  refine NX.seq ?_
  refine WC.seq ?_
  refine WC.region ?_
  refine TL.yld rfl rfl (yld_move rfl rfl) ?_
  refine TL.yld rfl rfl (yld_move rfl rfl) ?_
  obtain ⟨r5, hr6, hF⟩ := bsome hF
  refine TL.eff rfl rfl (eff_call rfl gf_95 rfl (W_slices_IndexFunc_int64_int64_on_impl_areWithin_1 hr6 ((slRep.old ha2 he0 (Nat.le_refl _)).wide (Nat.le_refl _) (he0).size) hb3 hb4)) ?_
  rintro _ w7 ⟨rfl, hx8⟩
  have he9 : Ext w w7 := Ext.trans he0 hx8
  have hb3 := Box.ext hb3 hx8
  have hb4 := Box.ext hb4 hx8
  have hz10 := (hx8).size
  refine TL.yld rfl rfl (yld_geq rfl rfl rfl) ?_
  refine TL.yld rfl rfl (yld_assign rfl rfl) ?_
  refine TL.done ?_
  refine NX.seq ?_
  refine WC.ret' ?_
  obtain rfl := Option.some.inj hF
  exact NX.end (rs := [.tmp 4]) (vs := [.bool (decide (r5 ≥ 0))]) rfl ⟨rfl, trivial⟩ ⟨_, rfl, rfl, he9⟩

-- loop.example/g00861/impl.areWithin
def F_impl_areWithin (n : Nat) (a0_list : List Int) (a1_low : Int) (a2_high : Int) : Option Bool := (Option.bind (F_slices_ContainsFunc_int64_int64_on_impl_areWithin_1 n a0_list a1_low a2_high) fun r17 => (some (!r17)))
set_option maxHeartbeats 40000000 in
theorem W_impl_areWithin {n : Nat} {a0_list : List Int} {a1_low : Int} {a2_high : Int} {r : Bool} {w : World} {v1 : Value} (hF : F_impl_areWithin n a0_list a1_low a2_high = some r) (ha2 : slRep (cInt .i64) w (Iv 0 w.heap.size) a0_list v1) :
    Calls Tryd.prog 76 [v1, .int .i64 a1_low, .int .i64 a2_high].toArray w (Ret fun u w2 => u = .bool r ∧ Ext w w2) := by
  refine calls_of Tryd.func76 rfl Tryd.ntmps76 ?_
  have he0 : Ext w w := Ext.refl w
  unfold F_impl_areWithin at hF
  refine WC.seq ?_
  refine WC.region ?_
  refine TL.eff rfl rfl (eff_box rfl rfl) ?_
  rintro _ w4 ⟨b3, rfl, hn5⟩
  obtain ⟨hn5e, hn5s, hn5x, hb6⟩ := hn5
  have hb6 : Box w4 b3 [.int .i64 a1_low] 2 := hb6
  have he8 : Ext w w4 := Ext.trans he0 hn5x
  have hz9 := (hn5x).size
  have hlo7 : w.heap.size ≤ b3 := by rw [hn5e]; exact (he0).size
  refine TL.eff rfl rfl (eff_box rfl rfl) ?_
  rintro _ w11 ⟨b10, rfl, hn12⟩
  obtain ⟨hn12e, hn12s, hn12x, hb13⟩ := hn12
  have hb13 : Box w11 b10 [.int .i64 a2_high] 2 := hb13
  have he15 : Ext w w11 := Ext.trans he8 hn12x
  have hb6 := Box.ext hb6 hn12x
  have hz16 := (hn12x).size
  have hlo14 : w.heap.size ≤ b10 := by rw [hn12e]; exact (he8).size
  refine TL.yld rfl rfl (yld_assign rfl rfl) ?_
  refine TL.done ?_
  refine NX.seq ?_
  refine WC.seq ?_
  refine WC.region ?_
  refine TL.yld rfl rfl (yld_move rfl rfl) ?_
  refine TL.yld rfl rfl (yld_makeFunc rfl rfl rfl) ?_
  obtain ⟨r17, hr18, hF⟩ := bsome hF
  refine TL.eff rfl rfl (eff_call rfl gf_85 rfl (W_slices_ContainsFunc_int64_int64_on_impl_areWithin_1 hr18 ((slRep.old ha2 he15 (Nat.le_refl _)).wide (Nat.le_refl _) (he15).size) hb6 hb13)) ?_
  rintro _ w19 ⟨rfl, hx20⟩
  have he21 : Ext w w19 := Ext.trans he15 hx20
  have hb6 := Box.ext hb6 hx20
  have hb13 := Box.ext hb13 hx20
  have hz22 := (hx20).size
  refine TL.yld rfl rfl (yld_not rfl rfl) ?_
  refine TL.yld rfl rfl (yld_assign rfl rfl) ?_
  refine TL.done ?_
  refine NX.seq ?_
  refine WC.ret' ?_
  obtain rfl := Option.some.inj hF
  exact NX.end (rs := [.tmp 6]) (vs := [.bool (!r17)]) rfl ⟨rfl, trivial⟩ ⟨_, rfl, rfl, he21⟩

-- loop.example/g00861/impl.length[loop.example/g00861/impl.Clock]
def F_impl_length_impl_Clock (n : Nat) (a0_list : List S_Clock) : Option Int := (some ((a0_list.length : Int)))
set_option maxHeartbeats 40000000 in
theorem W_impl_length_impl_Clock {n : Nat} {a0_list : List S_Clock} {r : Int} {w : World} {v1 : Value} (hF : F_impl_length_impl_Clock n a0_list = some r) (ha2 : slRep C_Clock w (Iv 0 w.heap.size) a0_list v1) :
    Calls Tryd.prog 77 [v1].toArray w (Ret fun u w2 => u = .int .i64 r ∧ Ext w w2) := by
  refine calls_of Tryd.func77 rfl Tryd.ntmps77 ?_
  have he0 : Ext w w := Ext.refl w
  unfold F_impl_length_impl_Clock at hF
  refine WC.seq ?_
  refine WC.region ?_
  refine TL.yld rfl rfl (yld_assign rfl rfl) ?_
  refine TL.done ?_
  refine NX.seq ?_
  refine WC.seq ?_
  refine WC.region ?_
  refine TL.yld rfl rfl (yld_move rfl rfl) ?_
  refine TL.yld rfl rfl (ye_len (c := C_Clock) rfl Tryd.underlying25 rfl (slRep.old ha2 he0 (Nat.le_refl _))) ?_
  refine TL.yld rfl rfl (yld_assign rfl rfl) ?_
  refine TL.done ?_
  refine NX.seq ?_
  refine WC.ret' ?_
  obtain rfl := Option.some.inj hF
  exact NX.end (rs := [.tmp 2]) (vs := [.int .i64 ((a0_list.length : Int))]) rfl ⟨rfl, trivial⟩ ⟨_, rfl, rfl, he0⟩

-- loop.example/g00861/impl.clockCode
def F_impl_clockCode (n : Nat) (a0_list : List S_Clock) (a1_clocks : List Int) : Option Int := (Option.bind (F_impl_IsClocks n a0_list) fun r5 => (bif (!r5) then (some 1) else (Option.bind (F_impl_length_impl_Clock n a0_list) fun r13 => (Option.bind (F_impl_areWithin n a1_clocks 0 (IntKind.wrap IntKind.i64 (r13 - 1))) fun r19 => (bif (!r19) then (some 4) else (some 0))))))
set_option maxHeartbeats 40000000 in
theorem W_impl_clockCode {n : Nat} {a0_list : List S_Clock} {a1_clocks : List Int} {r : Int} {w : World} {v1 : Value} {v3 : Value} (hF : F_impl_clockCode n a0_list a1_clocks = some r) (ha2 : slRep C_Clock w (Iv 0 w.heap.size) a0_list v1) (ha4 : slRep (cInt .i64) w (Iv 0 w.heap.size) a1_clocks v3) :
    Calls Tryd.prog 54 [v1, v3].toArray w (Ret fun u w2 => u = .int .i64 r ∧ Ext w w2) := by
  refine calls_of Tryd.func54 rfl Tryd.ntmps54 ?_
  have he0 : Ext w w := Ext.refl w
  unfold F_impl_clockCode at hF
  refine WC.seq ?_
  refine WC.region ?_
  refine TL.yld rfl rfl (yld_assign rfl rfl) ?_
  refine TL.done ?_
  refine NX.seq ?_
  refine WC.seq ?_
  refine WC.block ?_
  refine WC.seq ?_
  refine WC.region ?_
  refine TL.yld rfl rfl (yld_move rfl rfl) ?_
  obtain ⟨r5, hr6, hF⟩ := bsome hF
  refine TL.eff rfl rfl (eff_call rfl gf_18 rfl (W_impl_IsClocks hr6 ((slRep.old ha2 he0 (Nat.le_refl _)).wide (Nat.le_refl _) (he0).size))) ?_
  rintro _ w7 ⟨rfl, hx8⟩
  have he9 : Ext w w7 := Ext.trans he0 hx8
  have hz10 := (hx8).size
  refine TL.yld rfl rfl (yld_not rfl rfl) ?_
  refine TL.yld rfl rfl (yld_assign rfl rfl) ?_
  refine TL.done ?_
  refine NX.seq ?_
  refine WC.cond rfl ?_ ?_
  · intro hc11
    replace hF := bif_t hc11 hF
    refine WC.seq ?_
    refine WC.region ?_
    refine TL.yld rfl rfl (yld_assign rfl rfl) ?_
    refine TL.done ?_
    refine NX.seq ?_
    refine WC.ret' ?_
    refine NX.blk_r ?_
    refine NX.then_r ?_
    obtain rfl := Option.some.inj hF
    exact NX.end (rs := [.tmp 4]) (vs := [.int .i64 1]) rfl ⟨rfl, trivial⟩ ⟨_, rfl, rfl, he9⟩
  · intro hc12
    replace hF := bif_f hc12 hF
    refine WC.seq ?_
    refine WC.region ?_
    refine TL.yld rfl rfl (yld_move rfl rfl) ?_
    refine TL.yld rfl rfl (yld_move rfl rfl) ?_
    obtain ⟨r13, hr14, hF⟩ := bsome hF
    refine TL.eff rfl rfl (eff_call rfl gf_77 rfl (W_impl_length_impl_Clock hr14 ((slRep.old ha2 he9 (Nat.le_refl _)).wide (Nat.le_refl _) (he9).size))) ?_
    rintro _ w15 ⟨rfl, hx16⟩
    have he17 : Ext w w15 := Ext.trans he9 hx16
    have hz18 := (hx16).size
    refine TL.yld rfl rfl (yld_sub rfl rfl rfl) ?_
    obtain ⟨r19, hr20, hF⟩ := bsome hF
    refine TL.eff rfl rfl (eff_call rfl gf_76 rfl (W_impl_areWithin hr20 ((slRep.old ha4 he17 (Nat.le_refl _)).wide (Nat.le_refl _) (he17).size))) ?_
    rintro _ w21 ⟨rfl, hx22⟩
    have he23 : Ext w w21 := Ext.trans he17 hx22
    have hz24 := (hx22).size
    refine TL.yld rfl rfl (yld_not rfl rfl) ?_
    refine TL.yld rfl rfl (yld_assign rfl rfl) ?_
    refine TL.done ?_
    refine NX.seq ?_
    refine WC.cond rfl ?_ ?_
    · intro hc25
      replace hF := bif_t hc25 hF
      refine WC.seq ?_
      refine WC.region ?_
      refine TL.yld rfl rfl (yld_assign rfl rfl) ?_
      refine TL.done ?_
      refine NX.seq ?_
      refine WC.ret' ?_
      refine NX.blk_r ?_
      refine NX.then_r ?_
      obtain rfl := Option.some.inj hF
      exact NX.end (rs := [.tmp 4]) (vs := [.int .i64 4]) rfl ⟨rfl, trivial⟩ ⟨_, rfl, rfl, he23⟩
    · intro hc26
      replace hF := bif_f hc26 hF
      refine WC.skip' ?_
      refine NX.blk_n ?_
      refine NX.seq ?_
      refine WC.seq ?_
      refine WC.region ?_
      refine TL.yld rfl rfl (yld_assign rfl rfl) ?_
      refine TL.done ?_
      refine NX.seq ?_
      refine WC.ret' ?_
      obtain rfl := Option.some.inj hF
      exact NX.end (rs := [.tmp 4]) (vs := [.int .i64 0]) rfl ⟨rfl, trivial⟩ ⟨_, rfl, rfl, he23⟩

-- loop.example/g00861/impl.modulo
def F_impl_modulo (n : Nat) (a0_a : Int) (a1_b : Int) : Option Int := (bif (a1_b == 0) then none else (bif (a1_b == 0) then none else (some (Int.tmod (IntKind.wrap IntKind.i64 ((Int.tmod a0_a a1_b) + a1_b)) a1_b))))
set_option maxHeartbeats 40000000 in
theorem W_impl_modulo {n : Nat} {a0_a : Int} {a1_b : Int} {r : Int} {w : World} (hF : F_impl_modulo n a0_a a1_b = some r) :
    Calls Tryd.prog 66 [.int .i64 a0_a, .int .i64 a1_b].toArray w (Ret fun u w2 => u = .int .i64 r ∧ Ext w w2) := by
  refine calls_of Tryd.func66 rfl Tryd.ntmps66 ?_
  have he0 : Ext w w := Ext.refl w
  unfold F_impl_modulo at hF
  refine WC.seq ?_
  refine WC.region ?_
  refine TL.yld rfl rfl (yld_assign rfl rfl) ?_
  refine TL.done ?_
  refine NX.seq ?_
  refine WC.seq ?_
  refine WC.region ?_
  refine TL.yld rfl rfl (yld_move rfl rfl) ?_
  refine TL.yld rfl rfl (yld_move rfl rfl) ?_
  obtain ⟨hn1, hF⟩ := nzero hF
  refine TL.yld rfl rfl (yld_rem rfl rfl rfl hn1) ?_
  refine TL.yld rfl rfl (yld_move rfl rfl) ?_
  refine TL.yld rfl rfl (yld_add rfl rfl rfl) ?_
  refine TL.yld rfl rfl (yld_move rfl rfl) ?_
  obtain ⟨hn2, hF⟩ := nzero hF
  refine TL.yld rfl rfl (yld_rem rfl rfl rfl hn2) ?_
  refine TL.yld rfl rfl (yld_assign rfl rfl) ?_
  refine TL.done ?_
  refine NX.seq ?_
  refine WC.ret' ?_
  obtain rfl := Option.some.inj hF
  exact NX.end (rs := [.tmp 4]) (vs := [.int .i64 (Int.tmod (IntKind.wrap IntKind.i64 ((Int.tmod a0_a a1_b) + a1_b)) a1_b)]) rfl ⟨rfl, trivial⟩ ⟨_, rfl, rfl, he0⟩

-- (loop.example/g00861/impl.wave).widths
def F_impl_wave_widths (n : Nat) (a0_w : S_wave) : Option (Int × Int) := (Option.bind (F_impl_modulo n (IntKind.wrap IntKind.i64 (a0_w.edges_.e1 - a0_w.edges_.e0)) a0_w.period_) fun r8 => (some (r8, IntKind.wrap IntKind.i64 (a0_w.period_ - r8))))
set_option maxHeartbeats 40000000 in
theorem W_impl_wave_widths {n : Nat} {a0_w : S_wave} {r : Int × Int} {w : World} (hF : F_impl_wave_widths n a0_w = some r) :
    Calls Tryd.prog 59 [.agg #[.int .i64 a0_w.period_, .int .i64 a0_w.edges_.e0, .int .i64 a0_w.edges_.e1]].toArray w (Ret fun u w2 => u = .tuple #[.int .i64 r.1, .int .i64 r.2] ∧ Ext w w2) := by
  refine calls_of Tryd.func59 rfl Tryd.ntmps59 ?_
  have he0 : Ext w w := Ext.refl w
  unfold F_impl_wave_widths at hF
  refine WC.seq ?_
  refine WC.region ?_
  refine TL.eff rfl rfl (eff_box rfl rfl) ?_
  rintro _ w2 ⟨b1, rfl, hn3⟩
  obtain ⟨hn3e, hn3s, hn3x, hb4⟩ := hn3
  have hb4 : Box w2 b1 [.int .i64 a0_w.period_, .int .i64 a0_w.edges_.e0, .int .i64 a0_w.edges_.e1] 71 := hb4
  have he6 : Ext w w2 := Ext.trans he0 hn3x
  have hz7 := (hn3x).size
  have hlo5 : w.heap.size ≤ b1 := by rw [hn3e]; exact (he0).size
  refine TL.yld rfl rfl (yld_assign rfl rfl) ?_
  refine TL.yld rfl rfl (yld_assign rfl rfl) ?_
  refine TL.done ?_
  refine NX.seq ?_
  refine WC.seq ?_
  refine WC.region ?_
  refine TL.yld rfl rfl (yld_fieldAddr rfl fo_71_1 rfl) ?_
  refine TL.yld rfl rfl (yld_indexArr rfl Tryd.underlying69 cn_2 rfl rfl (by decide)) ?_
  refine TL.yld rfl rfl (yld_load1 2 rfl ag_2 rfl (Box.cells hb4) rfl rfl) ?_
  refine TL.yld rfl rfl (yld_fieldAddr rfl fo_71_1 rfl) ?_
  refine TL.yld rfl rfl (yld_indexArr rfl Tryd.underlying69 cn_2 rfl rfl (by decide)) ?_
  refine TL.yld rfl rfl (yld_load1 1 rfl ag_2 rfl (Box.cells hb4) rfl rfl) ?_
  refine TL.yld rfl rfl (yld_sub rfl rfl rfl) ?_
  refine TL.yld rfl rfl (yld_fieldAddr rfl fo_71_0 rfl) ?_
  refine TL.yld rfl rfl (yld_load1 0 rfl ag_2 rfl (Box.cells hb4) rfl rfl) ?_
  obtain ⟨r8, hr9, hF⟩ := bsome hF
  refine TL.eff rfl rfl (eff_call rfl gf_66 rfl (W_impl_modulo hr9)) ?_
  rintro _ w10 ⟨rfl, hx11⟩
  have he12 : Ext w w10 := Ext.trans he6 hx11
  have hb4 := Box.ext hb4 hx11
  have hz13 := (hx11).size
  refine TL.yld rfl rfl (yld_assign rfl rfl) ?_
  refine TL.done ?_
  refine NX.seq ?_
  refine WC.seq ?_
  refine WC.quiet Tryd.hm (by kernel_rfl) ?_
  refine QL.yld rfl rfl (Yld.qui (yld_move rfl rfl)) ?_
  refine QL.yld rfl rfl (Yld.qui (yld_fieldAddr rfl fo_71_0 rfl)) ?_
  refine QL.yld rfl rfl (Yld.qui (yld_load1 0 rfl ag_2 rfl (Box.cells hb4) rfl rfl)) ?_
  refine QL.yld rfl rfl (Yld.qui (yld_move rfl rfl)) ?_
  refine QL.yld rfl rfl (Yld.qui (yld_sub rfl rfl rfl)) ?_
  refine QL.yld rfl rfl (Yld.qui (yld_assign rfl rfl)) ?_
  refine QL.yld rfl rfl (Yld.qui (yld_assign rfl rfl)) ?_
  refine QL.done fun w14 hx15 => ?_
  have he16 : Ext w w14 := Ext.trans he12 hx15
  have hb4 := Box.ext hb4 hx15
  have hz17 := (hx15).size
  refine NX.seq ?_
  refine WC.ret' ?_
  obtain rfl := Option.some.inj hF
  exact NX.end (rs := [.tmp 2, .tmp 3]) (vs := [.int .i64 r8, .int .i64 (IntKind.wrap IntKind.i64 (a0_w.period_ - r8))]) rfl ⟨rfl, rfl, trivial⟩ ⟨_, rfl, rfl, he16⟩

-- loop.example/g00861/impl.PulseWidths
def F_impl_PulseWidths (n : Nat) (a0_list : List S_Clock) (a1_k : Int) : Option (Int × Int × Int) := (Option.bind (F_impl_clockCode n a0_list [a1_k]) fun r16 => (bif (r16 != 0) then (some (0, 0, r16)) else (Option.bind (F_impl_waveOf n a0_list a1_k) fun r24 => (Option.bind (F_impl_wave_widths n r24) fun r30 => (some (r30.1, r30.2, 0))))))
set_option maxHeartbeats 40000000 in
theorem W_impl_PulseWidths {n : Nat} {a0_list : List S_Clock} {a1_k : Int} {r : Int × Int × Int} {w : World} {v1 : Value} (hF : F_impl_PulseWidths n a0_list a1_k = some r) (ha2 : slRep C_Clock w (Iv 0 w.heap.size) a0_list v1) :
    Calls Tryd.prog 24 [v1, .int .i64 a1_k].toArray w (Ret fun u w2 => u = .tuple #[.int .i64 r.1, .int .i64 r.2.1, .int .i64 r.2.2] ∧ Ext w w2) := by
  refine calls_of Tryd.func24 rfl Tryd.ntmps24 ?_
  have he0 : Ext w w := Ext.refl w
  unfold F_impl_PulseWidths at hF
  refine WC.seq ?_
  refine WC.region ?_
  refine TL.yld rfl rfl (yld_assign rfl rfl) ?_
  refine TL.yld rfl rfl (yld_assign rfl rfl) ?_
  refine TL.yld rfl rfl (yld_assign rfl rfl) ?_
  refine TL.done ?_
  refine NX.seq ?_
  refine WC.seq ?_
  refine WC.seq ?_
  refine WC.region ?_
  refine TL.yld rfl rfl (yld_move rfl rfl) ?_
  refine TL.yld rfl rfl (yld_move rfl rfl) ?_
  refine TL.eff rfl rfl (eff_buildSlice (c := (cInt .i64)) (xs := [a1_k]) (S := (Iv 0 0)) (uss := [(0, [.int .i64 a1_k])]) (out := [.int .i64 a1_k]) rfl Tryd.underlying46 in_2 rfl rfl (fillL_all [[.int .i64 a1_k]] rfl rfl rfl) rfl rfl rfl rfl (one_rep (uss := [[.int .i64 a1_k]]) (show reps _ _ _ _ _ from ⟨rfl, trivial⟩) rfl) (fun k h => by have := h.2; omega) rfl) ?_
  rintro v3 w4 ⟨g5, hv6, hg7, hz8, hx9, hs10⟩
  have he11 : Ext w w4 := Ext.trans he0 hx9
  have hz12 := (hx9).size
  have hlo13 : w.heap.size ≤ g5 := by rw [hg7]; exact (he0).size
  have hbd14 := bd_of hv6
  clear hv6
  obtain ⟨r16, hr17, hF⟩ := bsome hF
  refine TL.eff rfl rfl (eff_call rfl gf_54 rfl (W_impl_clockCode hr17 ((slRep.old ha2 he11 (Nat.le_refl _)).wide (Nat.le_refl _) (he11).size) (ownR.slf hs10 (Nat.zero_le _) (Nat.le_refl _)))) ?_
  rintro _ w18 ⟨rfl, hx19⟩
  have he20 : Ext w w18 := Ext.trans he11 hx19
  have hs10 := ownR.ext hs10 hx19
  have hz21 := (hx19).size
  refine TL.yld rfl rfl (yld_assign rfl rfl) ?_
  refine TL.done ?_
  refine NX.seq ?_
  refine WC.seq ?_
  refine WC.region ?_
  refine TL.yld rfl rfl (yld_move rfl rfl) ?_
  refine TL.yld rfl rfl (yld_neq rfl rfl rfl) ?_
  refine TL.done ?_
  refine NX.seq ?_
  refine WC.cond rfl ?_ ?_
  · intro hc22
    replace hF := bif_t hc22 hF
    refine WC.seq ?_
    refine WC.region ?_
    refine TL.yld rfl rfl (yld_move rfl rfl) ?_
    refine TL.yld rfl rfl (yld_assign rfl rfl) ?_
    refine TL.yld rfl rfl (yld_assign rfl rfl) ?_
    refine TL.yld rfl rfl (yld_assign rfl rfl) ?_
    refine TL.done ?_
    refine NX.seq ?_
    refine WC.ret' ?_
    refine NX.then_r ?_
    obtain rfl := Option.some.inj hF
    exact NX.end (rs := [.tmp 4, .tmp 5, .tmp 6]) (vs := [.int .i64 0, .int .i64 0, .int .i64 r16]) rfl ⟨rfl, rfl, rfl, trivial⟩ ⟨_, rfl, rfl, he20⟩
  · intro hc23
    replace hF := bif_f hc23 hF
    refine WC.skip' ?_
    refine NX.seq ?_
    refine WC.seq ?_
    refine WC.region ?_
    refine TL.yld rfl rfl (yld_move rfl rfl) ?_
    refine TL.yld rfl rfl (yld_move rfl rfl) ?_
    obtain ⟨r24, hr25, hF⟩ := bsome hF
    refine TL.eff rfl rfl (eff_call rfl gf_55 rfl (W_impl_waveOf hr25 ((slRep.old ha2 he20 (Nat.le_refl _)).wide (Nat.le_refl _) (he20).size))) ?_
    rintro _ w26 ⟨rfl, hx27⟩
    have he28 : Ext w w26 := Ext.trans he20 hx27
    have hs10 := ownR.ext hs10 hx27
    have hz29 := (hx27).size
    obtain ⟨r30, hr31, hF⟩ := bsome hF
    refine TL.eff rfl rfl (eff_call rfl gf_59 rfl (W_impl_wave_widths hr31)) ?_
    rintro _ w32 ⟨rfl, hx33⟩
    have he34 : Ext w w32 := Ext.trans he28 hx33
    have hs10 := ownR.ext hs10 hx33
    have hz35 := (hx33).size
    refine TL.yld rfl rfl (yld_move rfl rfl) ?_
    refine TL.yld rfl rfl (yld_extract rfl rfl rfl) ?_
    refine TL.yld rfl rfl (yld_extract rfl rfl rfl) ?_
    refine TL.yld rfl rfl (yld_assign rfl rfl) ?_
    refine TL.yld rfl rfl (yld_assign rfl rfl) ?_
    refine TL.done ?_
    refine NX.seq ?_
    refine WC.seq ?_
    refine WC.region ?_
    refine TL.yld rfl rfl (yld_move rfl rfl) ?_
    refine TL.yld rfl rfl (yld_move rfl rfl) ?_
    refine TL.yld rfl rfl (yld_assign rfl rfl) ?_
    refine TL.yld rfl rfl (yld_assign rfl rfl) ?_
    refine TL.yld rfl rfl (yld_assign rfl rfl) ?_
    refine TL.done ?_
    refine NX.seq ?_
    refine WC.ret' ?_
    obtain rfl := Option.some.inj hF
    exact NX.end (rs := [.tmp 4, .tmp 5, .tmp 6]) (vs := [.int .i64 r30.1, .int .i64 r30.2, .int .i64 0]) rfl ⟨rfl, rfl, rfl, trivial⟩ ⟨_, rfl, rfl, he34⟩

-- loop.example/g00861/laws.FnPulses
def F_laws_FnPulses (n : Nat) (a0_code : List Int) : Option Bool := (Option.bind (F_laws_big n a0_code) fun r3 => (bif r3 then (some true) else (Option.bind (F_spec_DrawPulseWidths n a0_code) fun r11 => (Option.bind (F_impl_PulseWidths n r11.1 r11.2) fun r21 => (Option.bind (F_spec_WaveOf n r11.1 r11.2) fun r27 => (bif (r21.2.2 != r27.2.2.2) then (some false) else (some ((((((((r21.2.2 != 0)) && ((r21.1 == 0)))) && ((r21.2.1 == 0)))) || ((((((((r21.2.2 == 0)) && (decide (r21.1 > 0)))) && (decide (r21.2.1 > 0)))) && (((IntKind.wrap IntKind.i64 (r21.1 + r21.2.1)) == r27.1)))))))))))))
set_option maxHeartbeats 40000000 in
theorem W_laws_FnPulses {n : Nat} {a0_code : List Int} {r : Bool} {w : World} {v1 : Value} (hF : F_laws_FnPulses n a0_code = some r) (ha2 : slRep (cInt .u8) w (Iv 0 w.heap.size) a0_code v1) :
    Calls Tryd.prog 5 [v1].toArray w (Ret fun u w2 => u = .bool r ∧ Ext w w2) := by
  refine calls_of Tryd.func5 rfl Tryd.ntmps5 ?_
  have he0 : Ext w w := Ext.refl w
  unfold F_laws_FnPulses at hF
  refine WC.seq ?_
  refine WC.region ?_
  refine TL.yld rfl rfl (yld_assign rfl rfl) ?_
  refine TL.done ?_
  refine NX.seq ?_
  refine WC.seq ?_
  refine WC.seq ?_
  refine WC.region ?_
  refine TL.yld rfl rfl (yld_move rfl rfl) ?_
  obtain ⟨r3, hr4, hF⟩ := bsome hF
  refine TL.eff rfl rfl (eff_call rfl gf_22 rfl (W_laws_big hr4 ((slRep.old ha2 he0 (Nat.le_refl _)).wide (Nat.le_refl _) (he0).size))) ?_
  rintro _ w5 ⟨rfl, hx6⟩
  have he7 : Ext w w5 := Ext.trans he0 hx6
  have hz8 := (hx6).size
  refine TL.done ?_
  refine NX.seq ?_
  refine WC.cond rfl ?_ ?_
  · intro hc9
    replace hF := bif_t hc9 hF
    refine WC.seq ?_
    refine WC.region ?_
    refine TL.yld rfl rfl (yld_assign rfl rfl) ?_
    refine TL.done ?_
    refine NX.seq ?_
    refine WC.ret' ?_
    refine NX.then_r ?_
    obtain rfl := Option.some.inj hF
    exact NX.end (rs := [.tmp 2]) (vs := [.bool true]) rfl ⟨rfl, trivial⟩ ⟨_, rfl, rfl, he7⟩
  · intro hc10
    replace hF := bif_f hc10 hF
    refine WC.skip' ?_
    refine NX.seq ?_
    refine WC.seq ?_
    refine WC.region ?_
    refine TL.yld rfl rfl (yld_move rfl rfl) ?_
    obtain ⟨r11, hr12, hF⟩ := bsome hF
    refine TL.eff rfl rfl (eff_call rfl gf_23 rfl (W_spec_DrawPulseWidths hr12 ((slRep.old ha2 he7 (Nat.le_refl _)).wide (Nat.le_refl _) (he7).size))) ?_
    rintro _ w13 ⟨v15, rfl, hs16, hx14⟩
    have he19 : Ext w w13 := Ext.trans he7 hx14
    have hz20 := (hx14).size
    have hbd18 := ownR.blk hs16
    refine TL.yld rfl rfl (yld_move rfl rfl) ?_
    refine TL.yld rfl rfl (yld_extract rfl rfl rfl) ?_
    refine TL.yld rfl rfl (yld_extract rfl rfl rfl) ?_
    refine TL.yld rfl rfl (yld_assign rfl rfl) ?_
    refine TL.yld rfl rfl (yld_assign rfl rfl) ?_
    refine TL.done ?_
    refine NX.seq ?_
    refine WC.seq ?_
    refine WC.region ?_
    refine TL.yld rfl rfl (yld_move rfl rfl) ?_
    refine TL.yld rfl rfl (yld_move rfl rfl) ?_
    obtain ⟨r21, hr22, hF⟩ := bsome hF
    refine TL.eff rfl rfl (eff_call rfl gf_24 rfl (W_impl_PulseWidths hr22 (ownR.slf hs16 (Nat.zero_le _) (Nat.le_refl _)))) ?_
    rintro _ w23 ⟨rfl, hx24⟩
    have he25 : Ext w w23 := Ext.trans he19 hx24
    have hs16 := ownR.ext hs16 hx24
    have hz26 := (hx24).size
    refine TL.yld rfl rfl (yld_move rfl rfl) ?_
    refine TL.yld rfl rfl (yld_extract rfl rfl rfl) ?_
    refine TL.yld rfl rfl (yld_extract rfl rfl rfl) ?_
    refine TL.yld rfl rfl (yld_extract rfl rfl rfl) ?_
    refine TL.yld rfl rfl (yld_assign rfl rfl) ?_
    refine TL.yld rfl rfl (yld_assign rfl rfl) ?_
    refine TL.yld rfl rfl (yld_assign rfl rfl) ?_
    refine TL.done ?_
    refine NX.seq ?_
    refine WC.seq ?_
    refine WC.region ?_
    refine TL.yld rfl rfl (yld_move rfl rfl) ?_
    refine TL.yld rfl rfl (yld_move rfl rfl) ?_
    obtain ⟨r27, hr28, hF⟩ := bsome hF
    refine TL.eff rfl rfl (eff_call rfl gf_20 rfl (W_spec_WaveOf hr28 (ownR.slf hs16 (Nat.zero_le _) (Nat.le_refl _)))) ?_
    rintro _ w29 ⟨rfl, hx30⟩
    have he31 : Ext w w29 := Ext.trans he25 hx30
    have hs16 := ownR.ext hs16 hx30
    have hz32 := (hx30).size
    refine TL.yld rfl rfl (yld_move rfl rfl) ?_
    refine TL.yld rfl rfl (yld_extract rfl rfl rfl) ?_
    refine TL.yld rfl rfl (yld_extract rfl rfl rfl) ?_
    refine TL.yld rfl rfl (yld_extract rfl rfl rfl) ?_
    refine TL.yld rfl rfl (yld_extract rfl rfl rfl) ?_
    refine TL.yld rfl rfl (yld_assign rfl rfl) ?_
    refine TL.yld rfl rfl (yld_assign rfl rfl) ?_
    refine TL.yld rfl rfl (yld_assign rfl rfl) ?_
    refine TL.yld rfl rfl (yld_assign rfl rfl) ?_
    refine TL.done ?_
    refine NX.seq ?_
    refine WC.seq ?_
    refine WC.seq ?_
    refine WC.region ?_
    refine TL.yld rfl rfl (yld_move rfl rfl) ?_
    refine TL.yld rfl rfl (yld_move rfl rfl) ?_
    refine TL.yld rfl rfl (yld_neq rfl rfl rfl) ?_
    refine TL.done ?_
    refine NX.seq ?_
    refine WC.cond rfl ?_ ?_
    · intro hc33
      replace hF := bif_t hc33 hF
      refine WC.seq ?_
      refine WC.region ?_
      refine TL.yld rfl rfl (yld_assign rfl rfl) ?_
      refine TL.done ?_
      refine NX.seq ?_
      refine WC.ret' ?_
      refine NX.then_r ?_
      obtain rfl := Option.some.inj hF
      exact NX.end (rs := [.tmp 2]) (vs := [.bool false]) rfl ⟨rfl, trivial⟩ ⟨_, rfl, rfl, he31⟩
    · intro hc34
      replace hF := bif_f hc34 hF
      refine WC.skip' ?_
      refine NX.seq ?_
      refine WC.seq ?_
      refine WC.region ?_
      refine TL.yld rfl rfl (yld_move rfl rfl) ?_
      refine TL.yld rfl rfl (yld_neq rfl rfl rfl) ?_
      refine TL.yld rfl rfl (yld_move rfl rfl) ?_
      refine TL.cut 3 [(5, .int .i64 r21.1), (6, .int .i64 r21.2.1), (7, .int .i64 r21.2.2), (8, .int .i64 r27.1), (42, .bool ((((r21.2.2 != 0)) && ((r21.1 == 0)))))] (fun w' => Ext w29 w') ?_ ?_
      · rcases Bool.eq_false_or_eq_true ((r21.2.2 != 0)) with hg35 | hg35
        ·
          refine TL.gy (j := 2) (t := 39) rfl rfl rfl hg35 rfl (yld_move rfl rfl) ?_
          refine TL.gy (j := 2) (t := 39) rfl rfl rfl hg35 rfl (yld_eql rfl rfl rfl) ?_
          refine TL.yld rfl rfl (yld_and_t rfl rfl hg35 rfl) ?_
          exact TL.nil fun a h => ⟨h.weaken ⟨rfl, rfl, rfl, rfl, rfl, trivial⟩, Ext.refl _⟩
        ·
          refine TL.gnu (j := 2) (t := 39) rfl rfl rfl hg35 rfl ?_
          refine TL.gnu (j := 2) (t := 39) rfl rfl rfl hg35 rfl ?_
          refine TL.yld rfl rfl (yld_and_f (b2 := (r21.1 == 0)) rfl rfl hg35 rfl) ?_
          exact TL.nil fun a h => ⟨h.weaken ⟨rfl, rfl, rfl, rfl, rfl, trivial⟩, Ext.refl _⟩
      intro w36 hx37
      have he38 : Ext w w36 := Ext.trans he31 hx37
      have hs16 := ownR.ext hs16 hx37
      have hz39 := (hx37).size
      refine TL.yld rfl rfl (yld_move rfl rfl) ?_
      refine TL.cut 3 [(5, .int .i64 r21.1), (6, .int .i64 r21.2.1), (7, .int .i64 r21.2.2), (8, .int .i64 r27.1), (46, .bool ((((((r21.2.2 != 0)) && ((r21.1 == 0)))) && ((r21.2.1 == 0)))))] (fun w' => Ext w36 w') ?_ ?_
      · rcases Bool.eq_false_or_eq_true ((((r21.2.2 != 0)) && ((r21.1 == 0)))) with hg40 | hg40
        ·
          refine TL.gy (j := 6) (t := 43) rfl rfl rfl hg40 rfl (yld_move rfl rfl) ?_
          refine TL.gy (j := 6) (t := 43) rfl rfl rfl hg40 rfl (yld_eql rfl rfl rfl) ?_
          refine TL.yld rfl rfl (yld_and_t rfl rfl hg40 rfl) ?_
          exact TL.nil fun a h => ⟨h.weaken ⟨rfl, rfl, rfl, rfl, rfl, trivial⟩, Ext.refl _⟩
        ·
          refine TL.gnu (j := 6) (t := 43) rfl rfl rfl hg40 rfl ?_
          refine TL.gnu (j := 6) (t := 43) rfl rfl rfl hg40 rfl ?_
          refine TL.yld rfl rfl (yld_and_f (b2 := (r21.2.1 == 0)) rfl rfl hg40 rfl) ?_
          exact TL.nil fun a h => ⟨h.weaken ⟨rfl, rfl, rfl, rfl, rfl, trivial⟩, Ext.refl _⟩
      intro w41 hx42
      have he43 : Ext w w41 := Ext.trans he38 hx42
      have hs16 := ownR.ext hs16 hx42
      have hz44 := (hx42).size
      refine TL.yld rfl rfl (yld_move rfl rfl) ?_
      refine TL.cut 18 [(65, .bool ((((((((r21.2.2 != 0)) && ((r21.1 == 0)))) && ((r21.2.1 == 0)))) || ((((((((r21.2.2 == 0)) && (decide (r21.1 > 0)))) && (decide (r21.2.1 > 0)))) && (((IntKind.wrap IntKind.i64 (r21.1 + r21.2.1)) == r27.1)))))))] (fun w' => Ext w41 w') ?_ ?_
      · rcases Bool.eq_false_or_eq_true ((((((r21.2.2 != 0)) && ((r21.1 == 0)))) && ((r21.2.1 == 0)))) with hg45 | hg45
        ·
          refine TL.gnu (j := 10) (t := 47) rfl rfl rfl hg45 rfl ?_
          refine TL.gnu (j := 10) (t := 47) rfl rfl rfl hg45 rfl ?_
          refine TL.gnu (j := 10) (t := 47) rfl rfl rfl hg45 rfl ?_
          refine TL.gu (j := 13) (t := 50) rfl rfl rfl rfl ?_
          refine TL.gu (j := 13) (t := 50) rfl rfl rfl rfl ?_
          refine TL.gnu (j := 10) (t := 47) rfl rfl rfl hg45 rfl ?_
          refine TL.gnu (j := 10) (t := 47) rfl rfl rfl hg45 rfl ?_
          refine TL.gu (j := 17) (t := 54) rfl rfl rfl rfl ?_
          refine TL.gu (j := 17) (t := 54) rfl rfl rfl rfl ?_
          refine TL.gnu (j := 10) (t := 47) rfl rfl rfl hg45 rfl ?_
          refine TL.gnu (j := 10) (t := 47) rfl rfl rfl hg45 rfl ?_
          refine TL.gu (j := 21) (t := 58) rfl rfl rfl rfl ?_
          refine TL.gu (j := 21) (t := 58) rfl rfl rfl rfl ?_
          refine TL.gu (j := 21) (t := 58) rfl rfl rfl rfl ?_
          refine TL.gu (j := 21) (t := 58) rfl rfl rfl rfl ?_
          refine TL.gu (j := 21) (t := 58) rfl rfl rfl rfl ?_
          refine TL.gnu (j := 10) (t := 47) rfl rfl rfl hg45 rfl ?_
          refine TL.yld rfl rfl (yld_or_t (b2 := (((((((r21.2.2 == 0)) && (decide (r21.1 > 0)))) && (decide (r21.2.1 > 0)))) && (((IntKind.wrap IntKind.i64 (r21.1 + r21.2.1)) == r27.1)))) rfl rfl hg45 rfl) ?_
          exact TL.nil fun a h => ⟨h.weaken ⟨rfl, trivial⟩, Ext.refl _⟩
        ·
          refine TL.gy (j := 10) (t := 47) rfl rfl rfl hg45 rfl (yld_move rfl rfl) ?_
          refine TL.gy (j := 10) (t := 47) rfl rfl rfl hg45 rfl (yld_eql rfl rfl rfl) ?_
          refine TL.gy (j := 10) (t := 47) rfl rfl rfl hg45 rfl (yld_move rfl rfl) ?_
          refine TL.cut 3 [(5, .int .i64 r21.1), (6, .int .i64 r21.2.1), (8, .int .i64 r27.1), (47, .bool ((((((r21.2.2 != 0)) && ((r21.1 == 0)))) && ((r21.2.1 == 0))))), (53, .bool ((((r21.2.2 == 0)) && (decide (r21.1 > 0)))))] (fun w' => Ext w41 w') ?_ ?_
          · rcases Bool.eq_false_or_eq_true ((r21.2.2 == 0)) with hg46 | hg46
            ·
              refine TL.gy (j := 13) (t := 50) rfl rfl rfl hg46 rfl (yld_move rfl rfl) ?_
              refine TL.gy (j := 13) (t := 50) rfl rfl rfl hg46 rfl (yld_gtr rfl rfl rfl) ?_
              refine TL.gy (j := 10) (t := 47) rfl rfl rfl hg45 rfl (yld_and_t rfl rfl hg46 rfl) ?_
              exact TL.nil fun a h => ⟨h.weaken ⟨rfl, rfl, rfl, rfl, rfl, trivial⟩, Ext.refl _⟩
            ·
              refine TL.gnu (j := 13) (t := 50) rfl rfl rfl hg46 rfl ?_
              refine TL.gnu (j := 13) (t := 50) rfl rfl rfl hg46 rfl ?_
              refine TL.gy (j := 10) (t := 47) rfl rfl rfl hg45 rfl (yld_and_f (b2 := decide (r21.1 > 0)) rfl rfl hg46 rfl) ?_
              exact TL.nil fun a h => ⟨h.weaken ⟨rfl, rfl, rfl, rfl, rfl, trivial⟩, Ext.refl _⟩
          intro w47 hx48
          have he49 : Ext w w47 := Ext.trans he43 hx48
          have hs16 := ownR.ext hs16 hx48
          have hz50 := (hx48).size
          refine TL.gy (j := 10) (t := 47) rfl rfl rfl hg45 rfl (yld_move rfl rfl) ?_
          refine TL.cut 3 [(5, .int .i64 r21.1), (6, .int .i64 r21.2.1), (8, .int .i64 r27.1), (47, .bool ((((((r21.2.2 != 0)) && ((r21.1 == 0)))) && ((r21.2.1 == 0))))), (57, .bool ((((((r21.2.2 == 0)) && (decide (r21.1 > 0)))) && (decide (r21.2.1 > 0)))))] (fun w' => Ext w47 w') ?_ ?_
          · rcases Bool.eq_false_or_eq_true ((((r21.2.2 == 0)) && (decide (r21.1 > 0)))) with hg51 | hg51
            ·
              refine TL.gy (j := 17) (t := 54) rfl rfl rfl hg51 rfl (yld_move rfl rfl) ?_
              refine TL.gy (j := 17) (t := 54) rfl rfl rfl hg51 rfl (yld_gtr rfl rfl rfl) ?_
              refine TL.gy (j := 10) (t := 47) rfl rfl rfl hg45 rfl (yld_and_t rfl rfl hg51 rfl) ?_
              exact TL.nil fun a h => ⟨h.weaken ⟨rfl, rfl, rfl, rfl, rfl, trivial⟩, Ext.refl _⟩
            ·
              refine TL.gnu (j := 17) (t := 54) rfl rfl rfl hg51 rfl ?_
              refine TL.gnu (j := 17) (t := 54) rfl rfl rfl hg51 rfl ?_
              refine TL.gy (j := 10) (t := 47) rfl rfl rfl hg45 rfl (yld_and_f (b2 := decide (r21.2.1 > 0)) rfl rfl hg51 rfl) ?_
              exact TL.nil fun a h => ⟨h.weaken ⟨rfl, rfl, rfl, rfl, rfl, trivial⟩, Ext.refl _⟩
          intro w52 hx53
          have he54 : Ext w w52 := Ext.trans he49 hx53
          have hs16 := ownR.ext hs16 hx53
          have hz55 := (hx53).size
          refine TL.gy (j := 10) (t := 47) rfl rfl rfl hg45 rfl (yld_move rfl rfl) ?_
          refine TL.cut 6 [(47, .bool ((((((r21.2.2 != 0)) && ((r21.1 == 0)))) && ((r21.2.1 == 0))))), (64, .bool ((((((((r21.2.2 == 0)) && (decide (r21.1 > 0)))) && (decide (r21.2.1 > 0)))) && (((IntKind.wrap IntKind.i64 (r21.1 + r21.2.1)) == r27.1)))))] (fun w' => Ext w52 w') ?_ ?_
          · rcases Bool.eq_false_or_eq_true ((((((r21.2.2 == 0)) && (decide (r21.1 > 0)))) && (decide (r21.2.1 > 0)))) with hg56 | hg56
            ·
              refine TL.gy (j := 21) (t := 58) rfl rfl rfl hg56 rfl (yld_move rfl rfl) ?_
              refine TL.gy (j := 21) (t := 58) rfl rfl rfl hg56 rfl (yld_move rfl rfl) ?_
              refine TL.gy (j := 21) (t := 58) rfl rfl rfl hg56 rfl (yld_add rfl rfl rfl) ?_
              refine TL.gy (j := 21) (t := 58) rfl rfl rfl hg56 rfl (yld_move rfl rfl) ?_
              refine TL.gy (j := 21) (t := 58) rfl rfl rfl hg56 rfl (yld_eql rfl rfl rfl) ?_
              refine TL.gy (j := 10) (t := 47) rfl rfl rfl hg45 rfl (yld_and_t rfl rfl hg56 rfl) ?_
              exact TL.nil fun a h => ⟨h.weaken ⟨rfl, rfl, trivial⟩, Ext.refl _⟩
            ·
              refine TL.gnu (j := 21) (t := 58) rfl rfl rfl hg56 rfl ?_
              refine TL.gnu (j := 21) (t := 58) rfl rfl rfl hg56 rfl ?_
              refine TL.gnu (j := 21) (t := 58) rfl rfl rfl hg56 rfl ?_
              refine TL.gnu (j := 21) (t := 58) rfl rfl rfl hg56 rfl ?_
              refine TL.gnu (j := 21) (t := 58) rfl rfl rfl hg56 rfl ?_
              refine TL.gy (j := 10) (t := 47) rfl rfl rfl hg45 rfl (yld_and_f (b2 := ((IntKind.wrap IntKind.i64 (r21.1 + r21.2.1)) == r27.1)) rfl rfl hg56 rfl) ?_
              exact TL.nil fun a h => ⟨h.weaken ⟨rfl, rfl, trivial⟩, Ext.refl _⟩
          intro w57 hx58
          have he59 : Ext w w57 := Ext.trans he54 hx58
          have hs16 := ownR.ext hs16 hx58
          have hz60 := (hx58).size
          refine TL.yld rfl rfl (yld_or_f rfl rfl hg45 rfl) ?_
          exact TL.nil fun a h => ⟨h.weaken ⟨rfl, trivial⟩, (Ext.trans (Ext.trans hx48 hx53) hx58)⟩
      intro w61 hx62
      have he63 : Ext w w61 := Ext.trans he43 hx62
      have hs16 := ownR.ext hs16 hx62
      have hz64 := (hx62).size
      refine TL.yld rfl rfl (yld_assign rfl rfl) ?_
      refine TL.done ?_
      refine NX.seq ?_
      refine WC.ret' ?_
      obtain rfl := Option.some.inj hF
      exact NX.end (rs := [.tmp 2]) (vs := [.bool ((((((((r21.2.2 != 0)) && ((r21.1 == 0)))) && ((r21.2.1 == 0)))) || ((((((((r21.2.2 == 0)) && (decide (r21.1 > 0)))) && (decide (r21.2.1 > 0)))) && (((IntKind.wrap IntKind.i64 (r21.1 + r21.2.1)) == r27.1))))))]) rfl ⟨rfl, trivial⟩ ⟨_, rfl, rfl, he63⟩

theorem Rd_5 : Rd Tryd.prog 5 (cInt .u8) (inK .u8) := Rd.int Tryd.underlying5
theorem Rd_32 : Rd Tryd.prog 32 (cSl (cInt .u8)) (fun xs => xs.length ≤ 9223372036854775807 ∧ ∀ x ∈ xs, (inK .u8) x) := Rd.slice Tryd.underlying32 (by kernel_rfl) rfl Rd_5
end Go.Proofs.YthjagnioabgceaaDoor
