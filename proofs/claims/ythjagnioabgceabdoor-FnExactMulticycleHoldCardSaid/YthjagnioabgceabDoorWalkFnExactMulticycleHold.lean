/- The walks: every function that FnExactMulticycleHold reaches computes the plain function that is typed beside it; no condition. -/
import Derived.Test.YthjagnioabgceabDoorWalkFnExactMulticycleHoldP0
import Derived.Test.YthjagnioabgceabDoorDat
import Derived.Test.YthjagnioabgceabDoorShelf
set_option linter.all false
set_option maxRecDepth 20000
namespace Go.Proofs.YthjagnioabgceabDoor
open Go Go.RowKit Go.Eng
-- loop.example/g00861/impl.isClock
def F_impl_isClock (n : Nat) (a0_list : List S_Clock) (a1_k : Int) : Option Bool := (Option.bind (getI a0_list a1_k) fun x3 => (Option.bind (bif ((((((decide (x3.Place < 0)) || (decide (x3.EarlyLatency < 0)))) || (decide (x3.EarlyLatency > x3.LateLatency)))) || (decide (x3.LateLatency > 100000))) then (some true) else (Option.bind (F_impl_within n x3.Uncertainty 0 100000) fun r38 => (some (!r38)))) fun c38 => (bif c38 then (some false) else (bif (x3.Source == (-1)) then (Option.bind (F_impl_Clock_isPrimary n x3) fun r54 => (some r54)) else (Option.bind (F_impl_within n x3.Source 0 (IntKind.wrap IntKind.i64 (a1_k - 1))) fun r61 => (Option.bind (bif r61 then (Option.bind (F_impl_within n x3.Divide 1 8) fun r67 => (some r67)) else (some false)) fun c67 => (Option.bind (bif (((((c67 && ((x3.Period == 0)))) && ((x3.RiseAt == 0)))) && ((x3.FallAt == 0))) then (Option.bind (F_impl_waveOf n a0_list a1_k) fun r95 => (some (decide (r95.period_ ≤ 100000)))) else (some false)) fun c95 => (some c95))))))))
set_option maxHeartbeats 40000000 in
theorem W_impl_isClock {n : Nat} {a0_list : List S_Clock} {a1_k : Int} {r : Bool} {w : World} {v1 : Value} (hF : F_impl_isClock n a0_list a1_k = some r) (ha2 : slRep C_Clock w (Iv 0 w.heap.size) a0_list v1) :
    Calls Tryd.prog 134 [v1, .int .i64 a1_k].toArray w (Ret fun u w2 => u = .bool r ∧ Ext w w2) := by
  refine calls_of Tryd.func134 rfl Tryd.ntmps134 ?_
  have he0 : Ext w w := Ext.refl w
  unfold F_impl_isClock at hF
  refine WC.seq ?_
  refine WC.region ?_
  refine TL.yld rfl rfl (yld_assign rfl rfl) ?_
  refine TL.done ?_
  refine NX.seq ?_
  refine WC.seq ?_
  refine WC.region ?_
  refine TL.yld rfl rfl (yld_move rfl rfl) ?_
  refine TL.yld rfl rfl (yld_move rfl rfl) ?_
  obtain ⟨x3, hy4, hF⟩ := bsome hF
  refine TL.ye rfl rfl (ye_index (c := C_Clock) rfl Tryd.underlying26 cn_75 rfl rfl (slRep.old ha2 he0 (Nat.le_refl _)) hy4) ?_
  rintro _ ⟨b5, o6, us7, rfl, hib10, hr8, hcl9⟩
  have hib10 : 0 ≤ b5 ∧ b5 < w.heap.size := ⟨hib10.1, by have := hib10.2; omega⟩
  obtain rfl := C_Clock_open hr8
  refine TL.yld rfl rfl (yld_loadN (us := [.string x3.Name, .int .i64 x3.Place, .int .i64 x3.Period, .int .i64 x3.RiseAt, .int .i64 x3.FallAt, .int .i64 x3.Source, .int .i64 x3.Divide, .bool x3.Invert, .int .i64 x3.EarlyLatency, .int .i64 x3.LateLatency, .int .i64 x3.Uncertainty]) rfl ag_75 rfl hcl9 cn_75) ?_
  refine TL.eff rfl rfl (eff_alloc rfl zn_75) ?_
  rintro _ w12 ⟨b11, rfl, hn13⟩
  obtain ⟨hn13e, hn13s, hn13x, hb14⟩ := hn13
  have hb14 : Box w12 b11 [.string ByteArray.empty, .int .i64 0, .int .i64 0, .int .i64 0, .int .i64 0, .int .i64 0, .int .i64 0, .bool false, .int .i64 0, .int .i64 0, .int .i64 0] 75 := hb14
  have he16 : Ext w w12 := Ext.trans he0 hn13x
  have hz17 := (hn13x).size
  have hlo15 : w.heap.size ≤ b11 := by rw [hn13e]; exact (he0).size
  refine TL.eff rfl rfl (eff_store rfl rfl rfl hb14 cn_75 rfl rfl) ?_
  rintro _ w18 ⟨hu19, hb20⟩
  have he21 : Ext w w18 := Below.trans he16 (Upd.below hu19 (by omega))
  have hz22 := (hu19).size
  have hb14 : Box w18 b11 [.string x3.Name, .int .i64 x3.Place, .int .i64 x3.Period, .int .i64 x3.RiseAt, .int .i64 x3.FallAt, .int .i64 x3.Source, .int .i64 x3.Divide, .bool x3.Invert, .int .i64 x3.EarlyLatency, .int .i64 x3.LateLatency, .int .i64 x3.Uncertainty] 75 := hb20
  refine TL.done ?_
  refine NX.seq ?_
  refine WC.seq ?_
  refine WC.seq ?_
  refine WC.region ?_
  refine TL.yld rfl rfl (yld_fieldAddr rfl fo_75_1 rfl) ?_
  refine TL.yld rfl rfl (yld_load1 1 rfl ag_2 rfl (Box.cells hb14) rfl rfl) ?_
  refine TL.yld rfl rfl (yld_lss rfl rfl rfl) ?_
  refine TL.yld rfl rfl (yld_move rfl rfl) ?_
  refine TL.cut 4 [(0, v1), (1, .int .i64 a1_k), (5, .pointer (some ⟨b11, 0, none⟩)), (17, .bool (((decide (x3.Place < 0)) || (decide (x3.EarlyLatency < 0)))))] (fun w' => Ext w18 w') ?_ ?_
  · rcases Bool.eq_false_or_eq_true (decide (x3.Place < 0)) with hg23 | hg23
    ·
      refine TL.gnu (j := 3) (t := 13) rfl rfl rfl hg23 rfl ?_
      refine TL.gnu (j := 3) (t := 13) rfl rfl rfl hg23 rfl ?_
      refine TL.gnu (j := 3) (t := 13) rfl rfl rfl hg23 rfl ?_
      refine TL.yld rfl rfl (yld_or_t (b2 := decide (x3.EarlyLatency < 0)) rfl rfl hg23 rfl) ?_
      exact TL.nil fun a h => ⟨h.weaken ⟨rfl, rfl, rfl, rfl, trivial⟩, Ext.refl _⟩
    ·
      refine TL.gy (j := 3) (t := 13) rfl rfl rfl hg23 rfl (yld_fieldAddr rfl fo_75_8 rfl) ?_
      refine TL.gy (j := 3) (t := 13) rfl rfl rfl hg23 rfl (yld_load1 8 rfl ag_2 rfl (Box.cells hb14) rfl rfl) ?_
      refine TL.gy (j := 3) (t := 13) rfl rfl rfl hg23 rfl (yld_lss rfl rfl rfl) ?_
      refine TL.yld rfl rfl (yld_or_f rfl rfl hg23 rfl) ?_
      exact TL.nil fun a h => ⟨h.weaken ⟨rfl, rfl, rfl, rfl, trivial⟩, Ext.refl _⟩
  intro w24 hx25
  have he26 : Ext w w24 := Ext.trans he21 hx25
  have hb14 := Box.ext hb14 hx25
  have hz27 := (hx25).size
  refine TL.yld rfl rfl (yld_move rfl rfl) ?_
  refine TL.cut 6 [(0, v1), (1, .int .i64 a1_k), (5, .pointer (some ⟨b11, 0, none⟩)), (24, .bool (((((decide (x3.Place < 0)) || (decide (x3.EarlyLatency < 0)))) || (decide (x3.EarlyLatency > x3.LateLatency)))))] (fun w' => Ext w24 w') ?_ ?_
  · rcases Bool.eq_false_or_eq_true (((decide (x3.Place < 0)) || (decide (x3.EarlyLatency < 0)))) with hg28 | hg28
    ·
      refine TL.gnu (j := 8) (t := 18) rfl rfl rfl hg28 rfl ?_
      refine TL.gnu (j := 8) (t := 18) rfl rfl rfl hg28 rfl ?_
      refine TL.gnu (j := 8) (t := 18) rfl rfl rfl hg28 rfl ?_
      refine TL.gnu (j := 8) (t := 18) rfl rfl rfl hg28 rfl ?_
      refine TL.gnu (j := 8) (t := 18) rfl rfl rfl hg28 rfl ?_
      refine TL.yld rfl rfl (yld_or_t (b2 := decide (x3.EarlyLatency > x3.LateLatency)) rfl rfl hg28 rfl) ?_
      exact TL.nil fun a h => ⟨h.weaken ⟨rfl, rfl, rfl, rfl, trivial⟩, Ext.refl _⟩
    ·
      refine TL.gy (j := 8) (t := 18) rfl rfl rfl hg28 rfl (yld_fieldAddr rfl fo_75_8 rfl) ?_
      refine TL.gy (j := 8) (t := 18) rfl rfl rfl hg28 rfl (yld_load1 8 rfl ag_2 rfl (Box.cells hb14) rfl rfl) ?_
      refine TL.gy (j := 8) (t := 18) rfl rfl rfl hg28 rfl (yld_fieldAddr rfl fo_75_9 rfl) ?_
      refine TL.gy (j := 8) (t := 18) rfl rfl rfl hg28 rfl (yld_load1 9 rfl ag_2 rfl (Box.cells hb14) rfl rfl) ?_
      refine TL.gy (j := 8) (t := 18) rfl rfl rfl hg28 rfl (yld_gtr rfl rfl rfl) ?_
      refine TL.yld rfl rfl (yld_or_f rfl rfl hg28 rfl) ?_
      exact TL.nil fun a h => ⟨h.weaken ⟨rfl, rfl, rfl, rfl, trivial⟩, Ext.refl _⟩
  intro w29 hx30
  have he31 : Ext w w29 := Ext.trans he26 hx30
  have hb14 := Box.ext hb14 hx30
  have hz32 := (hx30).size
  refine TL.yld rfl rfl (yld_move rfl rfl) ?_
  refine TL.cut 4 [(0, v1), (1, .int .i64 a1_k), (5, .pointer (some ⟨b11, 0, none⟩)), (29, .bool (((((((decide (x3.Place < 0)) || (decide (x3.EarlyLatency < 0)))) || (decide (x3.EarlyLatency > x3.LateLatency)))) || (decide (x3.LateLatency > 100000)))))] (fun w' => Ext w29 w') ?_ ?_
  · rcases Bool.eq_false_or_eq_true (((((decide (x3.Place < 0)) || (decide (x3.EarlyLatency < 0)))) || (decide (x3.EarlyLatency > x3.LateLatency)))) with hg33 | hg33
    ·
      refine TL.gnu (j := 15) (t := 25) rfl rfl rfl hg33 rfl ?_
      refine TL.gnu (j := 15) (t := 25) rfl rfl rfl hg33 rfl ?_
      refine TL.gnu (j := 15) (t := 25) rfl rfl rfl hg33 rfl ?_
      refine TL.yld rfl rfl (yld_or_t (b2 := decide (x3.LateLatency > 100000)) rfl rfl hg33 rfl) ?_
      exact TL.nil fun a h => ⟨h.weaken ⟨rfl, rfl, rfl, rfl, trivial⟩, Ext.refl _⟩
    ·
      refine TL.gy (j := 15) (t := 25) rfl rfl rfl hg33 rfl (yld_fieldAddr rfl fo_75_9 rfl) ?_
      refine TL.gy (j := 15) (t := 25) rfl rfl rfl hg33 rfl (yld_load1 9 rfl ag_2 rfl (Box.cells hb14) rfl rfl) ?_
      refine TL.gy (j := 15) (t := 25) rfl rfl rfl hg33 rfl (yld_gtr rfl rfl rfl) ?_
      refine TL.yld rfl rfl (yld_or_f rfl rfl hg33 rfl) ?_
      exact TL.nil fun a h => ⟨h.weaken ⟨rfl, rfl, rfl, rfl, trivial⟩, Ext.refl _⟩
  intro w34 hx35
  have he36 : Ext w w34 := Ext.trans he31 hx35
  have hb14 := Box.ext hb14 hx35
  have hz37 := (hx35).size
  refine TL.yld rfl rfl (yld_move rfl rfl) ?_
  obtain ⟨c38, hb39, hF⟩ := bsome hF
  refine TL.cut 5 [(0, v1), (1, .int .i64 a1_k), (5, .pointer (some ⟨b11, 0, none⟩)), (35, .bool c38)] (fun w' => Ext w34 w') ?_ ?_
  · rcases Bool.eq_false_or_eq_true (((((((decide (x3.Place < 0)) || (decide (x3.EarlyLatency < 0)))) || (decide (x3.EarlyLatency > x3.LateLatency)))) || (decide (x3.LateLatency > 100000)))) with hg40 | hg40
    ·
      rw [hg40] at hb39; simp only [cond_true, cond_false] at hb39
      refine TL.gnu (j := 20) (t := 30) rfl rfl rfl hg40 rfl ?_
      refine TL.gnu (j := 20) (t := 30) rfl rfl rfl hg40 rfl ?_
      refine TL.gnu (j := 20) (t := 30) rfl rfl rfl hg40 rfl ?_
      refine TL.gnu (j := 20) (t := 30) rfl rfl rfl hg40 rfl ?_
      obtain rfl := Option.some.inj hb39
      refine TL.yld rfl rfl (yld_pick_t rfl rfl hg40 rfl) ?_
      exact TL.nil fun a h => ⟨h.weaken ⟨rfl, rfl, rfl, rfl, trivial⟩, Ext.refl _⟩
    ·
      rw [hg40] at hb39; simp only [cond_true, cond_false] at hb39
      replace hF := hb39
      refine TL.gy (j := 20) (t := 30) rfl rfl rfl hg40 rfl (yld_fieldAddr rfl fo_75_10 rfl) ?_
      refine TL.gy (j := 20) (t := 30) rfl rfl rfl hg40 rfl (yld_load1 10 rfl ag_2 rfl (Box.cells hb14) rfl rfl) ?_
      obtain ⟨r41, hr42, hF⟩ := bsome hF
      refine TL.ge (j := 20) (t := 30) rfl rfl rfl hg40 rfl (eff_call rfl gf_54 rfl (W_impl_within hr42)) ?_
      rintro _ w43 ⟨rfl, hx44⟩
      have he45 : Ext w w43 := Ext.trans he36 hx44
      have hb14 := Box.ext hb14 hx44
      have hz46 := (hx44).size
      refine TL.gy (j := 20) (t := 30) rfl rfl rfl hg40 rfl (yld_not rfl rfl) ?_
      obtain rfl := Option.some.inj hF
      refine TL.yld rfl rfl (yld_pick_f rfl rfl hg40 rfl) ?_
      exact TL.nil fun a h => ⟨h.weaken ⟨rfl, rfl, rfl, rfl, trivial⟩, hx44⟩
  intro w47 hx48
  have he49 : Ext w w47 := Ext.trans he36 hx48
  have hb14 := Box.ext hb14 hx48
  have hz50 := (hx48).size
  refine TL.done ?_
  refine NX.seq ?_
  refine WC.cond rfl ?_ ?_
  · intro hc51
    replace hF := bif_t hc51 hF
    refine WC.seq ?_
    refine WC.region ?_
    refine TL.yld rfl rfl (yld_assign rfl rfl) ?_
    refine TL.done ?_
    refine NX.seq ?_
    refine WC.ret' ?_
    refine NX.then_r ?_
    obtain rfl := Option.some.inj hF
    exact NX.end (rs := [.tmp 4]) (vs := [.bool false]) rfl ⟨rfl, trivial⟩ ⟨_, rfl, rfl, he49⟩
  · intro hc52
    replace hF := bif_f hc52 hF
    refine WC.skip' ?_
    refine NX.seq ?_
    refine WC.seq ?_
    refine WC.seq ?_
    refine WC.region ?_
    refine TL.yld rfl rfl (yld_fieldAddr rfl fo_75_5 rfl) ?_
    refine TL.yld rfl rfl (yld_load1 5 rfl ag_2 rfl (Box.cells hb14) rfl rfl) ?_
    refine TL.yld rfl rfl (yld_eql rfl rfl rfl) ?_
    refine TL.done ?_
    refine NX.seq ?_
    refine WC.cond rfl ?_ ?_
    · intro hc53
      replace hF := bif_t hc53 hF
      refine WC.seq ?_
      refine WC.region ?_
      refine TL.yld rfl rfl (yld_loadN (us := [.string x3.Name, .int .i64 x3.Place, .int .i64 x3.Period, .int .i64 x3.RiseAt, .int .i64 x3.FallAt, .int .i64 x3.Source, .int .i64 x3.Divide, .bool x3.Invert, .int .i64 x3.EarlyLatency, .int .i64 x3.LateLatency, .int .i64 x3.Uncertainty]) rfl ag_75 rfl (Box.cells hb14) cn_75) ?_
      obtain ⟨r54, hr55, hF⟩ := bsome hF
      refine TL.eff rfl rfl (eff_call rfl gf_149 rfl (W_impl_Clock_isPrimary hr55)) ?_
      rintro _ w56 ⟨rfl, hx57⟩
      have he58 : Ext w w56 := Ext.trans he49 hx57
      have hb14 := Box.ext hb14 hx57
      have hz59 := (hx57).size
      refine TL.yld rfl rfl (yld_assign rfl rfl) ?_
      refine TL.done ?_
      refine NX.seq ?_
      refine WC.ret' ?_
      refine NX.then_r ?_
      obtain rfl := Option.some.inj hF
      exact NX.end (rs := [.tmp 4]) (vs := [.bool r54]) rfl ⟨rfl, trivial⟩ ⟨_, rfl, rfl, he58⟩
    · intro hc60
      replace hF := bif_f hc60 hF
      refine WC.skip' ?_
      refine NX.seq ?_
      refine WC.seq ?_
      refine WC.region ?_
      refine TL.yld rfl rfl (yld_fieldAddr rfl fo_75_5 rfl) ?_
      refine TL.yld rfl rfl (yld_load1 5 rfl ag_2 rfl (Box.cells hb14) rfl rfl) ?_
      refine TL.yld rfl rfl (yld_move rfl rfl) ?_
      refine TL.yld rfl rfl (yld_sub rfl rfl rfl) ?_
      obtain ⟨r61, hr62, hF⟩ := bsome hF
      refine TL.eff rfl rfl (eff_call rfl gf_54 rfl (W_impl_within hr62)) ?_
      rintro _ w63 ⟨rfl, hx64⟩
      have he65 : Ext w w63 := Ext.trans he49 hx64
      have hb14 := Box.ext hb14 hx64
      have hz66 := (hx64).size
      refine TL.yld rfl rfl (yld_move rfl rfl) ?_
      obtain ⟨c67, hb68, hF⟩ := bsome hF
      refine TL.cut 4 [(0, v1), (1, .int .i64 a1_k), (5, .pointer (some ⟨b11, 0, none⟩)), (50, .bool c67)] (fun w' => Ext w63 w') ?_ ?_
      · rcases Bool.eq_false_or_eq_true r61 with hg69 | hg69
        ·
          rw [hg69] at hb68; simp only [cond_true, cond_false] at hb68
          replace hF := hb68
          refine TL.gy (j := 5) (t := 46) rfl rfl rfl hg69 rfl (yld_fieldAddr rfl fo_75_6 rfl) ?_
          refine TL.gy (j := 5) (t := 46) rfl rfl rfl hg69 rfl (yld_load1 6 rfl ag_2 rfl (Box.cells hb14) rfl rfl) ?_
          obtain ⟨r70, hr71, hF⟩ := bsome hF
          refine TL.ge (j := 5) (t := 46) rfl rfl rfl hg69 rfl (eff_call rfl gf_54 rfl (W_impl_within hr71)) ?_
          rintro _ w72 ⟨rfl, hx73⟩
          have he74 : Ext w w72 := Ext.trans he65 hx73
          have hb14 := Box.ext hb14 hx73
          have hz75 := (hx73).size
          obtain rfl := Option.some.inj hF
          refine TL.yld rfl rfl (yld_pick_t rfl rfl hg69 rfl) ?_
          exact TL.nil fun a h => ⟨h.weaken ⟨rfl, rfl, rfl, rfl, trivial⟩, hx73⟩
        ·
          rw [hg69] at hb68; simp only [cond_true, cond_false] at hb68
          refine TL.gnu (j := 5) (t := 46) rfl rfl rfl hg69 rfl ?_
          refine TL.gnu (j := 5) (t := 46) rfl rfl rfl hg69 rfl ?_
          refine TL.gnu (j := 5) (t := 46) rfl rfl rfl hg69 rfl ?_
          obtain rfl := Option.some.inj hb68
          refine TL.yld rfl rfl (yld_pick_f rfl rfl hg69 rfl) ?_
          exact TL.nil fun a h => ⟨h.weaken ⟨rfl, rfl, rfl, rfl, trivial⟩, Ext.refl _⟩
      intro w76 hx77
      have he78 : Ext w w76 := Ext.trans he65 hx77
      have hb14 := Box.ext hb14 hx77
      have hz79 := (hx77).size
      refine TL.yld rfl rfl (yld_move rfl rfl) ?_
      refine TL.cut 4 [(0, v1), (1, .int .i64 a1_k), (5, .pointer (some ⟨b11, 0, none⟩)), (55, .bool ((c67 && ((x3.Period == 0)))))] (fun w' => Ext w76 w') ?_ ?_
      · rcases Bool.eq_false_or_eq_true c67 with hg80 | hg80
        ·
          refine TL.gy (j := 10) (t := 51) rfl rfl rfl hg80 rfl (yld_fieldAddr rfl fo_75_2 rfl) ?_
          refine TL.gy (j := 10) (t := 51) rfl rfl rfl hg80 rfl (yld_load1 2 rfl ag_2 rfl (Box.cells hb14) rfl rfl) ?_
          refine TL.gy (j := 10) (t := 51) rfl rfl rfl hg80 rfl (yld_eql rfl rfl rfl) ?_
          refine TL.yld rfl rfl (yld_and_t rfl rfl hg80 rfl) ?_
          exact TL.nil fun a h => ⟨h.weaken ⟨rfl, rfl, rfl, rfl, trivial⟩, Ext.refl _⟩
        ·
          refine TL.gnu (j := 10) (t := 51) rfl rfl rfl hg80 rfl ?_
          refine TL.gnu (j := 10) (t := 51) rfl rfl rfl hg80 rfl ?_
          refine TL.gnu (j := 10) (t := 51) rfl rfl rfl hg80 rfl ?_
          refine TL.yld rfl rfl (yld_and_f (b2 := (x3.Period == 0)) rfl rfl hg80 rfl) ?_
          exact TL.nil fun a h => ⟨h.weaken ⟨rfl, rfl, rfl, rfl, trivial⟩, Ext.refl _⟩
      intro w81 hx82
      have he83 : Ext w w81 := Ext.trans he78 hx82
      have hb14 := Box.ext hb14 hx82
      have hz84 := (hx82).size
      refine TL.yld rfl rfl (yld_move rfl rfl) ?_
      refine TL.cut 4 [(0, v1), (1, .int .i64 a1_k), (5, .pointer (some ⟨b11, 0, none⟩)), (60, .bool ((((c67 && ((x3.Period == 0)))) && ((x3.RiseAt == 0)))))] (fun w' => Ext w81 w') ?_ ?_
      · rcases Bool.eq_false_or_eq_true ((c67 && ((x3.Period == 0)))) with hg85 | hg85
        ·
          refine TL.gy (j := 15) (t := 56) rfl rfl rfl hg85 rfl (yld_fieldAddr rfl fo_75_3 rfl) ?_
          refine TL.gy (j := 15) (t := 56) rfl rfl rfl hg85 rfl (yld_load1 3 rfl ag_2 rfl (Box.cells hb14) rfl rfl) ?_
          refine TL.gy (j := 15) (t := 56) rfl rfl rfl hg85 rfl (yld_eql rfl rfl rfl) ?_
          refine TL.yld rfl rfl (yld_and_t rfl rfl hg85 rfl) ?_
          exact TL.nil fun a h => ⟨h.weaken ⟨rfl, rfl, rfl, rfl, trivial⟩, Ext.refl _⟩
        ·
          refine TL.gnu (j := 15) (t := 56) rfl rfl rfl hg85 rfl ?_
          refine TL.gnu (j := 15) (t := 56) rfl rfl rfl hg85 rfl ?_
          refine TL.gnu (j := 15) (t := 56) rfl rfl rfl hg85 rfl ?_
          refine TL.yld rfl rfl (yld_and_f (b2 := (x3.RiseAt == 0)) rfl rfl hg85 rfl) ?_
          exact TL.nil fun a h => ⟨h.weaken ⟨rfl, rfl, rfl, rfl, trivial⟩, Ext.refl _⟩
      intro w86 hx87
      have he88 : Ext w w86 := Ext.trans he83 hx87
      have hb14 := Box.ext hb14 hx87
      have hz89 := (hx87).size
      refine TL.yld rfl rfl (yld_move rfl rfl) ?_
      refine TL.cut 4 [(0, v1), (1, .int .i64 a1_k), (65, .bool ((((((c67 && ((x3.Period == 0)))) && ((x3.RiseAt == 0)))) && ((x3.FallAt == 0)))))] (fun w' => Ext w86 w') ?_ ?_
      · rcases Bool.eq_false_or_eq_true ((((c67 && ((x3.Period == 0)))) && ((x3.RiseAt == 0)))) with hg90 | hg90
        ·
          refine TL.gy (j := 20) (t := 61) rfl rfl rfl hg90 rfl (yld_fieldAddr rfl fo_75_4 rfl) ?_
          refine TL.gy (j := 20) (t := 61) rfl rfl rfl hg90 rfl (yld_load1 4 rfl ag_2 rfl (Box.cells hb14) rfl rfl) ?_
          refine TL.gy (j := 20) (t := 61) rfl rfl rfl hg90 rfl (yld_eql rfl rfl rfl) ?_
          refine TL.yld rfl rfl (yld_and_t rfl rfl hg90 rfl) ?_
          exact TL.nil fun a h => ⟨h.weaken ⟨rfl, rfl, rfl, trivial⟩, Ext.refl _⟩
        ·
          refine TL.gnu (j := 20) (t := 61) rfl rfl rfl hg90 rfl ?_
          refine TL.gnu (j := 20) (t := 61) rfl rfl rfl hg90 rfl ?_
          refine TL.gnu (j := 20) (t := 61) rfl rfl rfl hg90 rfl ?_
          refine TL.yld rfl rfl (yld_and_f (b2 := (x3.FallAt == 0)) rfl rfl hg90 rfl) ?_
          exact TL.nil fun a h => ⟨h.weaken ⟨rfl, rfl, rfl, trivial⟩, Ext.refl _⟩
      intro w91 hx92
      have he93 : Ext w w91 := Ext.trans he88 hx92
      have hb14 := Box.ext hb14 hx92
      have hz94 := (hx92).size
      refine TL.yld rfl rfl (yld_move rfl rfl) ?_
      obtain ⟨c95, hb96, hF⟩ := bsome hF
      refine TL.cut 6 [(72, .bool c95)] (fun w' => Ext w91 w') ?_ ?_
      · rcases Bool.eq_false_or_eq_true ((((((c67 && ((x3.Period == 0)))) && ((x3.RiseAt == 0)))) && ((x3.FallAt == 0)))) with hg97 | hg97
        ·
          rw [hg97] at hb96; simp only [cond_true, cond_false] at hb96
          replace hF := hb96
          refine TL.gy (j := 25) (t := 66) rfl rfl rfl hg97 rfl (yld_move rfl rfl) ?_
          refine TL.gy (j := 25) (t := 66) rfl rfl rfl hg97 rfl (yld_move rfl rfl) ?_
          obtain ⟨r98, hr99, hF⟩ := bsome hF
          refine TL.ge (j := 25) (t := 66) rfl rfl rfl hg97 rfl (eff_call rfl gf_64 rfl (W_impl_waveOf hr99 ((slRep.old ha2 he93 (Nat.le_refl _)).wide (Nat.le_refl _) (he93).size))) ?_
          rintro _ w100 ⟨rfl, hx101⟩
          have he102 : Ext w w100 := Ext.trans he93 hx101
          have hb14 := Box.ext hb14 hx101
          have hz103 := (hx101).size
          refine TL.gy (j := 25) (t := 66) rfl rfl rfl hg97 rfl (yld_field1 rfl ft_84_0 ag_2 rfl rfl) ?_
          refine TL.gy (j := 25) (t := 66) rfl rfl rfl hg97 rfl (yld_leq rfl rfl rfl) ?_
          obtain rfl := Option.some.inj hF
          refine TL.yld rfl rfl (yld_pick_t rfl rfl hg97 rfl) ?_
          exact TL.nil fun a h => ⟨h.weaken ⟨rfl, trivial⟩, hx101⟩
        ·
          rw [hg97] at hb96; simp only [cond_true, cond_false] at hb96
          refine TL.gnu (j := 25) (t := 66) rfl rfl rfl hg97 rfl ?_
          refine TL.gnu (j := 25) (t := 66) rfl rfl rfl hg97 rfl ?_
          refine TL.gnu (j := 25) (t := 66) rfl rfl rfl hg97 rfl ?_
          refine TL.gnu (j := 25) (t := 66) rfl rfl rfl hg97 rfl ?_
          refine TL.gnu (j := 25) (t := 66) rfl rfl rfl hg97 rfl ?_
          obtain rfl := Option.some.inj hb96
          refine TL.yld rfl rfl (yld_pick_f rfl rfl hg97 rfl) ?_
          exact TL.nil fun a h => ⟨h.weaken ⟨rfl, trivial⟩, Ext.refl _⟩
      intro w104 hx105
      have he106 : Ext w w104 := Ext.trans he93 hx105
      have hb14 := Box.ext hb14 hx105
      have hz107 := (hx105).size
      refine TL.yld rfl rfl (yld_assign rfl rfl) ?_
      refine TL.done ?_
      refine NX.seq ?_
      refine WC.ret' ?_
      obtain rfl := Option.some.inj hF
      exact NX.end (rs := [.tmp 4]) (vs := [.bool c95]) rfl ⟨rfl, trivial⟩ ⟨_, rfl, rfl, he106⟩

-- strings.Trim, by the shelf's contract
def F_strings_Trim (n : Nat) (a0_s : ByteArray) (a1_cutset : ByteArray) : Option ByteArray := if a0_s.size ≤ 9223372036854775807 ∧ a1_cutset.size < 4294967281 ∧ (a1_cutset.data.toList.all fun b => decide (b.toNat < 128)) = true then some ⟨(Lib.trimS a0_s.data.toList a1_cutset.data.toList).toArray⟩ else none
theorem W_strings_Trim {n : Nat} {a0_s : ByteArray} {a1_cutset : ByteArray} {r : ByteArray} {w : World} (hF : F_strings_Trim n a0_s a1_cutset = some r) :
    Calls Tryd.prog 138 [.string a0_s, .string a1_cutset].toArray w (Ret fun u w2 => u = .string r ∧ Ext w w2) := by
  unfold F_strings_Trim at hF
  split at hF
  · rename_i h
    obtain rfl := Option.some.inj hF
    refine (Tryd.strings_Trim_ascii a0_s a1_cutset w h.1 h.2.1 (fun j b hb => of_decide_eq_true (List.all_eq_true.1 h.2.2 b (List.mem_of_getElem? hb)))).mono ?_
    rintro e w' ⟨rfl, hB⟩
    exact ⟨_, rfl, rfl, hB⟩
  · cases hF

-- strings.IndexByte, by the shelf's contract
def F_strings_IndexByte (n : Nat) (a0_s : ByteArray) (a1_c : Int) : Option Int := some (Lib.indexByte a0_s.data.toList a1_c.toNat.toUInt8)
theorem W_strings_IndexByte {n : Nat} {a0_s : ByteArray} {a1_c : Int} {r : Int} {w : World} (hF : F_strings_IndexByte n a0_s a1_c = some r) :
    Calls Tryd.prog 139 [.string a0_s, .int .u8 a1_c].toArray w (Ret fun u w2 => u = .int .i64 r ∧ Ext w w2) := by
  obtain rfl := Option.some.inj hF
  refine (Tryd.strings_IndexByte a0_s a1_c w).mono ?_
  rintro e w' ⟨rfl, rfl⟩
  exact ⟨_, rfl, rfl, Ext.refl _⟩

-- loop.example/g00861/impl.isName
def F_impl_isName (n : Nat) (a0_s : ByteArray) : Option Bool := (Option.bind (F_impl_within n ((a0_s.size : Int)) 1 8) fun r1 => (Option.bind (bif r1 then (Option.bind (F_strings_Trim n a0_s ((ByteArray.mk #[97, 98, 99, 100, 101, 102, 103, 104, 105, 106, 107, 108, 109, 110, 111, 112, 113, 114, 115, 116, 117, 118, 119, 120, 121, 122, 48, 49, 50, 51, 52, 53, 54, 55, 56, 57]))) fun r7 => (some ((r7.toList == ((ByteArray.mk #[])).toList)))) else (some false)) fun c7 => (Option.bind (bif c7 then (Option.bind (getB a0_s 0) fun x20 => (Option.bind (F_strings_IndexByte n ((ByteArray.mk #[97, 98, 99, 100, 101, 102, 103, 104, 105, 106, 107, 108, 109, 110, 111, 112, 113, 114, 115, 116, 117, 118, 119, 120, 121, 122])) x20) fun r22 => (some (decide (r22 ≥ 0))))) else (some false)) fun c20 => (some c20))))
set_option maxHeartbeats 40000000 in
theorem W_impl_isName {n : Nat} {a0_s : ByteArray} {r : Bool} {w : World} (hF : F_impl_isName n a0_s = some r) :
    Calls Tryd.prog 109 [.string a0_s].toArray w (Ret fun u w2 => u = .bool r ∧ Ext w w2) := by
  refine calls_of Tryd.func109 rfl Tryd.ntmps109 ?_
  have he0 : Ext w w := Ext.refl w
  unfold F_impl_isName at hF
  refine WC.seq ?_
  refine WC.region ?_
  refine TL.yld rfl rfl (yld_assign rfl rfl) ?_
  refine TL.done ?_
  refine NX.seq ?_
  refine WC.seq ?_
  refine WC.region ?_
  refine TL.yld rfl rfl (yld_move rfl rfl) ?_
  refine TL.yld rfl rfl (yld_lens rfl Tryd.underlying9 rfl) ?_
  obtain ⟨r1, hr2, hF⟩ := bsome hF
  refine TL.eff rfl rfl (eff_call rfl gf_54 rfl (W_impl_within hr2)) ?_
  rintro _ w3 ⟨rfl, hx4⟩
  have he5 : Ext w w3 := Ext.trans he0 hx4
  have hz6 := (hx4).size
  refine TL.yld rfl rfl (yld_move rfl rfl) ?_
  obtain ⟨c7, hb8, hF⟩ := bsome hF
  refine TL.cut 4 [(0, .string a0_s), (10, .bool c7)] (fun w' => Ext w3 w') ?_ ?_
  · rcases Bool.eq_false_or_eq_true r1 with hg9 | hg9
    ·
      rw [hg9] at hb8; simp only [cond_true, cond_false] at hb8
      replace hF := hb8
      refine TL.gy (j := 3) (t := 6) rfl rfl rfl hg9 rfl (yld_move rfl rfl) ?_
      obtain ⟨r10, hr11, hF⟩ := bsome hF
      refine TL.ge (j := 3) (t := 6) rfl rfl rfl hg9 rfl (eff_call rfl gf_138 rfl (W_strings_Trim hr11)) ?_
      rintro _ w12 ⟨rfl, hx13⟩
      have he14 : Ext w w12 := Ext.trans he5 hx13
      have hz15 := (hx13).size
      refine TL.gy (j := 3) (t := 6) rfl rfl rfl hg9 rfl (yld_eqs rfl rfl rfl) ?_
      obtain rfl := Option.some.inj hF
      refine TL.yld rfl rfl (yld_pick_t rfl rfl hg9 rfl) ?_
      exact TL.nil fun a h => ⟨h.weaken ⟨rfl, rfl, trivial⟩, hx13⟩
    ·
      rw [hg9] at hb8; simp only [cond_true, cond_false] at hb8
      refine TL.gnu (j := 3) (t := 6) rfl rfl rfl hg9 rfl ?_
      refine TL.gnu (j := 3) (t := 6) rfl rfl rfl hg9 rfl ?_
      refine TL.gnu (j := 3) (t := 6) rfl rfl rfl hg9 rfl ?_
      obtain rfl := Option.some.inj hb8
      refine TL.yld rfl rfl (yld_pick_f rfl rfl hg9 rfl) ?_
      exact TL.nil fun a h => ⟨h.weaken ⟨rfl, rfl, trivial⟩, Ext.refl _⟩
  intro w16 hx17
  have he18 : Ext w w16 := Ext.trans he5 hx17
  have hz19 := (hx17).size
  refine TL.yld rfl rfl (yld_move rfl rfl) ?_
  obtain ⟨c20, hb21, hF⟩ := bsome hF
  refine TL.cut 5 [(16, .bool c20)] (fun w' => Ext w16 w') ?_ ?_
  · rcases Bool.eq_false_or_eq_true c7 with hg22 | hg22
    ·
      rw [hg22] at hb21; simp only [cond_true, cond_false] at hb21
      replace hF := hb21
      refine TL.gy (j := 8) (t := 11) rfl rfl rfl hg22 rfl (yld_move rfl rfl) ?_
      obtain ⟨x23, hy24, hF⟩ := bsome hF
      refine TL.gy (j := 8) (t := 11) rfl rfl rfl hg22 rfl (yld_indexStr rfl Tryd.underlying9 rfl rfl hy24) ?_
      obtain ⟨r25, hr26, hF⟩ := bsome hF
      refine TL.ge (j := 8) (t := 11) rfl rfl rfl hg22 rfl (eff_call rfl gf_139 rfl (W_strings_IndexByte hr26)) ?_
      rintro _ w27 ⟨rfl, hx28⟩
      have he29 : Ext w w27 := Ext.trans he18 hx28
      have hz30 := (hx28).size
      refine TL.gy (j := 8) (t := 11) rfl rfl rfl hg22 rfl (yld_geq rfl rfl rfl) ?_
      obtain rfl := Option.some.inj hF
      refine TL.yld rfl rfl (yld_pick_t rfl rfl hg22 rfl) ?_
      exact TL.nil fun a h => ⟨h.weaken ⟨rfl, trivial⟩, hx28⟩
    ·
      rw [hg22] at hb21; simp only [cond_true, cond_false] at hb21
      refine TL.gnu (j := 8) (t := 11) rfl rfl rfl hg22 rfl ?_
      refine TL.gnu (j := 8) (t := 11) rfl rfl rfl hg22 rfl ?_
      refine TL.gnu (j := 8) (t := 11) rfl rfl rfl hg22 rfl ?_
      refine TL.gnu (j := 8) (t := 11) rfl rfl rfl hg22 rfl ?_
      obtain rfl := Option.some.inj hb21
      refine TL.yld rfl rfl (yld_pick_f rfl rfl hg22 rfl) ?_
      exact TL.nil fun a h => ⟨h.weaken ⟨rfl, trivial⟩, Ext.refl _⟩
  intro w31 hx32
  have he33 : Ext w w31 := Ext.trans he18 hx32
  have hz34 := (hx32).size
  refine TL.yld rfl rfl (yld_assign rfl rfl) ?_
  refine TL.done ?_
  refine NX.seq ?_
  refine WC.ret' ?_
  obtain rfl := Option.some.inj hF
  exact NX.end (rs := [.tmp 2]) (vs := [.bool c20]) rfl ⟨rfl, trivial⟩ ⟨_, rfl, rfl, he33⟩

-- slices.Index[[]string,string]
def F_slices_Index_string_string_L1 (a0_s : List ByteArray) (a1_v : ByteArray) (k0 : Int → Option Int) : Nat → Int → Option Int
  | 0 => fun _ => none
  | m + 1 => fun i5 => (bif decide (i5 < (a0_s.length : Int)) then (Option.bind (getI a0_s i5) fun x7 => (bif (a1_v.toList == x7.toList) then (some i5) else (F_slices_Index_string_string_L1 a0_s a1_v k0 m (IntKind.wrap IntKind.i64 (i5 + 1))))) else (k0 i5))
theorem F_slices_Index_string_string_L1_z (a0_s : List ByteArray) (a1_v : ByteArray) (k0 : Int → Option Int) (i5 : Int) : F_slices_Index_string_string_L1 a0_s a1_v k0 0 i5 = none := rfl
theorem F_slices_Index_string_string_L1_s (m : Nat) (a0_s : List ByteArray) (a1_v : ByteArray) (k0 : Int → Option Int) (i5 : Int) : F_slices_Index_string_string_L1 a0_s a1_v k0 (m + 1) i5 = (bif decide (i5 < (a0_s.length : Int)) then (Option.bind (getI a0_s i5) fun x7 => (bif (a1_v.toList == x7.toList) then (some i5) else (F_slices_Index_string_string_L1 a0_s a1_v k0 m (IntKind.wrap IntKind.i64 (i5 + 1))))) else (k0 i5)) := rfl

def F_slices_Index_string_string (n : Nat) (a0_s : List ByteArray) (a1_v : ByteArray) : Option Int := (F_slices_Index_string_string_L1 a0_s a1_v (fun i5 => (some (-1))) n 0)
set_option maxHeartbeats 40000000 in
theorem W_slices_Index_string_string {n : Nat} {a0_s : List ByteArray} {a1_v : ByteArray} {r : Int} {w : World} {v1 : Value} (hF : F_slices_Index_string_string n a0_s a1_v = some r) (ha2 : slRep cStr w (Iv 0 w.heap.size) a0_s v1) :
    Calls Tryd.prog 168 [v1, .string a1_v].toArray w (Ret fun u w2 => u = .int .i64 r ∧ Ext w w2) := by
  refine calls_of Tryd.func168 rfl Tryd.ntmps168 ?_
  have he0 : Ext w w := Ext.refl w
  unfold F_slices_Index_string_string at hF
  refine WC.seq ?_
  refine WC.region ?_
  refine TL.yld rfl rfl (yld_assign rfl rfl) ?_
  refine TL.done ?_
  refine NX.seq ?_
  refine WC.seq ?_
  refine WC.seq ?_
  refine WC.region ?_
  refine TL.yld rfl rfl (yld_move rfl rfl) ?_
  refine TL.yld rfl rfl (ye_len (c := cStr) rfl Tryd.underlying133 rfl (slRep.old ha2 he0 (Nat.le_refl _))) ?_
  refine TL.yld rfl rfl (yld_move rfl rfl) ?_
  refine TL.done ?_
  refine NX.seq ?_
  refine WC.block ?_
  refine WC.loop (fun m6 a wl => ∃ (i5 : Int), Kn 19 [(0, v1), (1, .string a1_v), (7, .int .i64 ((a0_s.length : Int))), (8, .int .i64 i5)] a ∧ Ext w wl ∧ w.heap.size ≤ wl.heap.size ∧ F_slices_Index_string_string_L1 a0_s a1_v (fun i5 => (some (-1))) m6 i5 = some r) n ?_ ?_
  · intro a hK; exact ⟨0, hK.weaken ⟨rfl, rfl, rfl, rfl, trivial⟩, he0, Nat.le_refl _, hF⟩
  · rintro m6 a w3 ⟨i5, hK, he4, hz7, hF⟩
    revert hK; revert a; refine (?_ : WC _ _ _ _ _ _)
    cases m6 with
    | zero => rw [F_slices_Index_string_string_L1_z] at hF; cases hF
    | succ m6 =>
      rw [F_slices_Index_string_string_L1_s] at hF
      refine WC.seq ?_
      refine WC.region ?_
      refine TL.yld rfl rfl (yld_lss rfl rfl rfl) ?_
      refine TL.done ?_
      refine NX.seq ?_
      refine WC.seq ?_
      refine WC.cond rfl ?_ ?_
      · intro hc8
        replace hF := bif_t hc8 hF
        refine WC.skip' ?_
        refine NX.seq ?_
        refine WC.seq ?_
        refine WC.block ?_
        refine WC.seq ?_
        refine WC.region ?_
        refine TL.yld rfl rfl (yld_move rfl rfl) ?_
        refine TL.yld rfl rfl (yld_assign rfl rfl) ?_
        refine TL.done ?_
        refine NX.seq ?_
        refine WC.seq ?_
        refine WC.region ?_
        refine TL.yld rfl rfl (yld_move rfl rfl) ?_
        refine TL.yld rfl rfl (yld_move rfl rfl) ?_
        refine TL.yld rfl rfl (yld_move rfl rfl) ?_
        obtain ⟨x9, hy10, hF⟩ := bsome hF
        refine TL.ye rfl rfl (ye_index (c := cStr) rfl Tryd.underlying133 cn_9 rfl rfl (slRep.old ha2 he4 (Nat.le_refl _)) hy10) ?_
        rintro _ ⟨b11, o12, us13, rfl, hib16, hr14, hcl15⟩
        have hib16 : 0 ≤ b11 ∧ b11 < w.heap.size := ⟨hib16.1, by have := hib16.2; omega⟩
        obtain rfl := hr14
        refine TL.yld rfl rfl (yld_load1 0 rfl ag_9 rfl hcl15 rfl rfl) ?_
        refine TL.yld rfl rfl (yld_eqs rfl rfl rfl) ?_
        refine TL.done ?_
        refine NX.seq ?_
        refine WC.cond rfl ?_ ?_
        · intro hc17
          replace hF := bif_t hc17 hF
          refine WC.seq ?_
          refine WC.region ?_
          refine TL.yld rfl rfl (yld_move rfl rfl) ?_
          refine TL.yld rfl rfl (yld_assign rfl rfl) ?_
          refine TL.done ?_
          refine NX.seq ?_
          refine WC.ret' ?_
          refine NX.blk_r ?_
          refine NX.then_r ?_
          refine NX.then_r ?_
          refine NX.blk_r ?_
          refine NX.then_r ?_
          obtain rfl := Option.some.inj hF
          exact NX.end (rs := [.tmp 4]) (vs := [.int .i64 i5]) rfl ⟨rfl, trivial⟩ ⟨_, rfl, rfl, he4⟩
        · intro hc18
          replace hF := bif_f hc18 hF
          refine WC.skip' ?_
          refine NX.blk_n ?_
          refine NX.seq ?_
          refine WC.region ?_
          refine TL.yld rfl rfl (yld_add rfl rfl rfl) ?_
          refine TL.yld rfl rfl (yld_move rfl rfl) ?_
          refine TL.done ?_
          refine NX.then_n ?_
          intro a hK; exact ⟨m6, Nat.lt_succ_self m6, (IntKind.wrap IntKind.i64 (i5 + 1)), hK.weaken ⟨rfl, rfl, rfl, rfl, trivial⟩, he4, (by omega), hF⟩
      · intro hc19
        replace hF := bif_f hc19 hF
        refine WC.exit' ?_
        refine NX.then_e ?_
        refine NX.then_e ?_
        refine NX.blk_hit ?_
        refine NX.seq ?_
        refine WC.seq ?_
        refine WC.region ?_
        refine TL.yld rfl rfl (yld_assign rfl rfl) ?_
        refine TL.done ?_
        refine NX.seq ?_
        refine WC.ret' ?_
        obtain rfl := Option.some.inj hF
        exact NX.end (rs := [.tmp 4]) (vs := [.int .i64 (-1)]) rfl ⟨rfl, trivial⟩ ⟨_, rfl, rfl, he4⟩

-- slices.Contains[[]string,string]
def F_slices_Contains_string_string (n : Nat) (a0_s : List ByteArray) (a1_v : ByteArray) : Option Bool := (Option.bind (F_slices_Index_string_string n a0_s a1_v) fun r3 => (some (decide (r3 ≥ 0))))
set_option maxHeartbeats 40000000 in
theorem W_slices_Contains_string_string {n : Nat} {a0_s : List ByteArray} {a1_v : ByteArray} {r : Bool} {w : World} {v1 : Value} (hF : F_slices_Contains_string_string n a0_s a1_v = some r) (ha2 : slRep cStr w (Iv 0 w.heap.size) a0_s v1) :
    Calls Tryd.prog 150 [v1, .string a1_v].toArray w (Ret fun u w2 => u = .bool r ∧ Ext w w2) := by
  refine calls_of Tryd.func150 rfl Tryd.ntmps150 ?_
  have he0 : Ext w w := Ext.refl w
  unfold F_slices_Contains_string_string at hF
  refine WC.seq ?_
  refine WC.region ?_
  refine TL.yld rfl rfl (yld_assign rfl rfl) ?_
  refine TL.done ?_
  refine NX.seq ?_
  refine WC.seq ?_
  refine WC.region ?_
  refine TL.yld rfl rfl (yld_move rfl rfl) ?_
  refine TL.yld rfl rfl (yld_move rfl rfl) ?_
  obtain ⟨r3, hr4, hF⟩ := bsome hF
  refine TL.eff rfl rfl (eff_call rfl gf_168 rfl (W_slices_Index_string_string hr4 ((slRep.old ha2 he0 (Nat.le_refl _)).wide (Nat.le_refl _) (he0).size))) ?_
  rintro _ w5 ⟨rfl, hx6⟩
  have he7 : Ext w w5 := Ext.trans he0 hx6
  have hz8 := (hx6).size
  refine TL.yld rfl rfl (yld_geq rfl rfl rfl) ?_
  refine TL.yld rfl rfl (yld_assign rfl rfl) ?_
  refine TL.done ?_
  refine NX.seq ?_
  refine WC.ret' ?_
  obtain rfl := Option.some.inj hF
  exact NX.end (rs := [.tmp 4]) (vs := [.bool (decide (r3 ≥ 0))]) rfl ⟨rfl, trivial⟩ ⟨_, rfl, rfl, he7⟩

-- loop.example/g00861/impl.areNames
def F_impl_areNames_L1 (n : Nat) (a0_list : List ByteArray) (k0 : Int → Option Bool) : Nat → Int → Option Bool
  | 0 => fun _ => none
  | m + 1 => fun i5 => (bif decide (i5 < (a0_list.length : Int)) then (Option.bind (getI a0_list i5) fun x7 => (Option.bind (F_impl_isName n x7) fun r15 => (Option.bind (bif (!r15) then (some true) else (Option.bind (subL a0_list 0 i5) fun z21 => (Option.bind (F_slices_Contains_string_string n z21 x7) fun r25 => (some r25)))) fun c21 => (bif c21 then (some false) else (F_impl_areNames_L1 n a0_list k0 m (IntKind.wrap IntKind.i64 (i5 + 1))))))) else (k0 i5))
theorem F_impl_areNames_L1_z (n : Nat) (a0_list : List ByteArray) (k0 : Int → Option Bool) (i5 : Int) : F_impl_areNames_L1 n a0_list k0 0 i5 = none := rfl
theorem F_impl_areNames_L1_s (m : Nat) (n : Nat) (a0_list : List ByteArray) (k0 : Int → Option Bool) (i5 : Int) : F_impl_areNames_L1 n a0_list k0 (m + 1) i5 = (bif decide (i5 < (a0_list.length : Int)) then (Option.bind (getI a0_list i5) fun x7 => (Option.bind (F_impl_isName n x7) fun r15 => (Option.bind (bif (!r15) then (some true) else (Option.bind (subL a0_list 0 i5) fun z21 => (Option.bind (F_slices_Contains_string_string n z21 x7) fun r25 => (some r25)))) fun c21 => (bif c21 then (some false) else (F_impl_areNames_L1 n a0_list k0 m (IntKind.wrap IntKind.i64 (i5 + 1))))))) else (k0 i5)) := rfl

def F_impl_areNames (n : Nat) (a0_list : List ByteArray) : Option Bool := (F_impl_areNames_L1 n a0_list (fun i5 => (some true)) n 0)
set_option maxHeartbeats 40000000 in
theorem W_impl_areNames {n : Nat} {a0_list : List ByteArray} {r : Bool} {w : World} {v1 : Value} (hF : F_impl_areNames n a0_list = some r) (ha2 : slRep cStr w (Iv 0 w.heap.size) a0_list v1) :
    Calls Tryd.prog 135 [v1].toArray w (Ret fun u w2 => u = .bool r ∧ Ext w w2) := by
  refine calls_of Tryd.func135 rfl Tryd.ntmps135 ?_
  have he0 : Ext w w := Ext.refl w
  unfold F_impl_areNames at hF
  refine WC.seq ?_
  refine WC.region ?_
  refine TL.yld rfl rfl (yld_assign rfl rfl) ?_
  refine TL.done ?_
  refine NX.seq ?_
  refine WC.seq ?_
  refine WC.seq ?_
  refine WC.region ?_
  refine TL.yld rfl rfl (yld_move rfl rfl) ?_
  refine TL.yld rfl rfl (ye_len (c := cStr) rfl Tryd.underlying133 rfl (slRep.old ha2 he0 (Nat.le_refl _))) ?_
  refine TL.yld rfl rfl (yld_move rfl rfl) ?_
  refine TL.done ?_
  refine NX.seq ?_
  refine WC.block ?_
  refine WC.loop (fun m6 a wl => ∃ (i5 : Int), Kn 23 [(0, v1), (5, v1), (6, .int .i64 ((a0_list.length : Int))), (7, .int .i64 i5)] a ∧ Ext w wl ∧ w.heap.size ≤ wl.heap.size ∧ F_impl_areNames_L1 n a0_list (fun i5 => (some true)) m6 i5 = some r) n ?_ ?_
  · intro a hK; exact ⟨0, hK.weaken ⟨rfl, rfl, rfl, rfl, trivial⟩, he0, Nat.le_refl _, hF⟩
  · rintro m6 a w3 ⟨i5, hK, he4, hz7, hF⟩
    revert hK; revert a; refine (?_ : WC _ _ _ _ _ _)
    cases m6 with
    | zero => rw [F_impl_areNames_L1_z] at hF; cases hF
    | succ m6 =>
      rw [F_impl_areNames_L1_s] at hF
      refine WC.seq ?_
      refine WC.region ?_
      refine TL.yld rfl rfl (yld_lss rfl rfl rfl) ?_
      refine TL.done ?_
      refine NX.seq ?_
      refine WC.seq ?_
      refine WC.cond rfl ?_ ?_
      · intro hc8
        replace hF := bif_t hc8 hF
        refine WC.skip' ?_
        refine NX.seq ?_
        refine WC.seq ?_
        refine WC.block ?_
        refine WC.seq ?_
        refine WC.region ?_
        refine TL.yld rfl rfl (yld_move rfl rfl) ?_
        obtain ⟨x9, hy10, hF⟩ := bsome hF
        refine TL.ye rfl rfl (ye_index (c := cStr) rfl Tryd.underlying133 cn_9 rfl rfl (slRep.old ha2 he4 (Nat.le_refl _)) hy10) ?_
        rintro _ ⟨b11, o12, us13, rfl, hib16, hr14, hcl15⟩
        have hib16 : 0 ≤ b11 ∧ b11 < w.heap.size := ⟨hib16.1, by have := hib16.2; omega⟩
        obtain rfl := hr14
        refine TL.yld rfl rfl (yld_load1 0 rfl ag_9 rfl hcl15 rfl rfl) ?_
        refine TL.yld rfl rfl (yld_assign rfl rfl) ?_
        refine TL.yld rfl rfl (yld_assign rfl rfl) ?_
        refine TL.done ?_
        refine NX.seq ?_
        refine WC.seq ?_
        refine WC.region ?_
        refine TL.yld rfl rfl (yld_move rfl rfl) ?_
        obtain ⟨r17, hr18, hF⟩ := bsome hF
        refine TL.eff rfl rfl (eff_call rfl gf_109 rfl (W_impl_isName hr18)) ?_
        rintro _ w19 ⟨rfl, hx20⟩
        have he21 : Ext w w19 := Ext.trans he4 hx20
        have hz22 := (hx20).size
        refine TL.yld rfl rfl (yld_not rfl rfl) ?_
        refine TL.yld rfl rfl (yld_move rfl rfl) ?_
        obtain ⟨c23, hb24, hF⟩ := bsome hF
        refine TL.cut 6 [(0, v1), (5, v1), (6, .int .i64 ((a0_list.length : Int))), (7, .int .i64 i5), (21, .bool c23)] (fun w' => Ext w19 w') ?_ ?_
        · rcases Bool.eq_false_or_eq_true (!r17) with hg25 | hg25
          ·
            rw [hg25] at hb24; simp only [cond_true, cond_false] at hb24
            refine TL.gnu (j := 3) (t := 15) rfl rfl rfl hg25 rfl ?_
            refine TL.gnu (j := 3) (t := 15) rfl rfl rfl hg25 rfl ?_
            refine TL.gnu (j := 3) (t := 15) rfl rfl rfl hg25 rfl ?_
            refine TL.gnu (j := 3) (t := 15) rfl rfl rfl hg25 rfl ?_
            refine TL.gnu (j := 3) (t := 15) rfl rfl rfl hg25 rfl ?_
            obtain rfl := Option.some.inj hb24
            refine TL.yld rfl rfl (yld_pick_t rfl rfl hg25 rfl) ?_
            exact TL.nil fun a h => ⟨h.weaken ⟨rfl, rfl, rfl, rfl, rfl, trivial⟩, Ext.refl _⟩
          ·
            rw [hg25] at hb24; simp only [cond_true, cond_false] at hb24
            replace hF := hb24
            refine TL.gy (j := 3) (t := 15) rfl rfl rfl hg25 rfl (yld_move rfl rfl) ?_
            refine TL.gy (j := 3) (t := 15) rfl rfl rfl hg25 rfl (yld_move rfl rfl) ?_
            obtain ⟨z26, hz27, hF⟩ := bsome hF
            refine TL.yeg (j := 3) (t := 15) rfl rfl rfl hg25 rfl (ye_slice_to (c := cStr) rfl Tryd.underlying133 cn_9 rfl rfl (slRep.old ha2 he21 (Nat.le_refl _)) hz27) ?_
            rintro v28 hs29
            refine TL.gy (j := 3) (t := 15) rfl rfl rfl hg25 rfl (yld_move rfl rfl) ?_
            obtain ⟨r30, hr31, hF⟩ := bsome hF
            refine TL.ge (j := 3) (t := 15) rfl rfl rfl hg25 rfl (eff_call rfl gf_150 rfl (W_slices_Contains_string_string hr31 (hs29.wide (Nat.zero_le _) (by omega)))) ?_
            rintro _ w32 ⟨rfl, hx33⟩
            have he34 : Ext w w32 := Ext.trans he21 hx33
            have hs29 := slRep.old hs29 hx33 (by omega)
            have hz35 := (hx33).size
            obtain rfl := Option.some.inj hF
            refine TL.yld rfl rfl (yld_pick_f rfl rfl hg25 rfl) ?_
            exact TL.nil fun a h => ⟨h.weaken ⟨rfl, rfl, rfl, rfl, rfl, trivial⟩, hx33⟩
        intro w36 hx37
        have he38 : Ext w w36 := Ext.trans he21 hx37
        have hz39 := (hx37).size
        refine TL.done ?_
        refine NX.seq ?_
        refine WC.cond rfl ?_ ?_
        · intro hc40
          replace hF := bif_t hc40 hF
          refine WC.seq ?_
          refine WC.region ?_
          refine TL.yld rfl rfl (yld_assign rfl rfl) ?_
          refine TL.done ?_
          refine NX.seq ?_
          refine WC.ret' ?_
          refine NX.blk_r ?_
          refine NX.then_r ?_
          refine NX.then_r ?_
          refine NX.blk_r ?_
          refine NX.then_r ?_
          obtain rfl := Option.some.inj hF
          exact NX.end (rs := [.tmp 2]) (vs := [.bool false]) rfl ⟨rfl, trivial⟩ ⟨_, rfl, rfl, he38⟩
        · intro hc41
          replace hF := bif_f hc41 hF
          refine WC.skip' ?_
          refine NX.blk_n ?_
          refine NX.seq ?_
          refine WC.region ?_
          refine TL.yld rfl rfl (yld_add rfl rfl rfl) ?_
          refine TL.yld rfl rfl (yld_move rfl rfl) ?_
          refine TL.done ?_
          refine NX.then_n ?_
          intro a hK; exact ⟨m6, Nat.lt_succ_self m6, (IntKind.wrap IntKind.i64 (i5 + 1)), hK.weaken ⟨rfl, rfl, rfl, rfl, trivial⟩, he38, (by omega), hF⟩
      · intro hc42
        replace hF := bif_f hc42 hF
        refine WC.exit' ?_
        refine NX.then_e ?_
        refine NX.then_e ?_
        refine NX.blk_hit ?_
        refine NX.seq ?_
        refine WC.seq ?_
        refine WC.region ?_
        refine TL.yld rfl rfl (yld_assign rfl rfl) ?_
        refine TL.done ?_
        refine NX.seq ?_
        refine WC.ret' ?_
        obtain rfl := Option.some.inj hF
        exact NX.end (rs := [.tmp 2]) (vs := [.bool true]) rfl ⟨rfl, trivial⟩ ⟨_, rfl, rfl, he4⟩

-- loop.example/g00861/impl.IsClocks
def F_impl_IsClocks_L1 (n : Nat) (a0_list : List S_Clock) (k0 : (List ByteArray) → Int → Option Bool) : Nat → (List ByteArray) → Int → Option Bool
  | 0 => fun _ _ => none
  | m + 1 => fun l10 i14 => (bif decide (i14 < (a0_list.length : Int)) then (Option.bind (getI a0_list i14) fun x16 => (Option.bind (F_impl_isClock n a0_list i14) fun r36 => (bif (!r36) then (some false) else (Option.bind (appN l10 [x16.Name] 16) fun z57 => (F_impl_IsClocks_L1 n a0_list k0 m z57 (IntKind.wrap IntKind.i64 (i14 + 1))))))) else (k0 l10 i14))
theorem F_impl_IsClocks_L1_z (n : Nat) (a0_list : List S_Clock) (k0 : (List ByteArray) → Int → Option Bool) (l10 : List ByteArray) (i14 : Int) : F_impl_IsClocks_L1 n a0_list k0 0 l10 i14 = none := rfl
theorem F_impl_IsClocks_L1_s (m : Nat) (n : Nat) (a0_list : List S_Clock) (k0 : (List ByteArray) → Int → Option Bool) (l10 : List ByteArray) (i14 : Int) : F_impl_IsClocks_L1 n a0_list k0 (m + 1) l10 i14 = (bif decide (i14 < (a0_list.length : Int)) then (Option.bind (getI a0_list i14) fun x16 => (Option.bind (F_impl_isClock n a0_list i14) fun r36 => (bif (!r36) then (some false) else (Option.bind (appN l10 [x16.Name] 16) fun z57 => (F_impl_IsClocks_L1 n a0_list k0 m z57 (IntKind.wrap IntKind.i64 (i14 + 1))))))) else (k0 l10 i14)) := rfl

def F_impl_IsClocks (n : Nat) (a0_list : List S_Clock) : Option Bool := (bif decide ((a0_list.length : Int) > 6) then (some false) else (F_impl_IsClocks_L1 n a0_list (fun l10 i14 => (Option.bind (F_impl_areNames n l10) fun r15 => (some r15))) n (([] : List ByteArray)) 0))
set_option maxHeartbeats 40000000 in
theorem W_impl_IsClocks {n : Nat} {a0_list : List S_Clock} {r : Bool} {w : World} {v1 : Value} (hF : F_impl_IsClocks n a0_list = some r) (ha2 : slRep C_Clock w (Iv 0 w.heap.size) a0_list v1) :
    Calls Tryd.prog 101 [v1].toArray w (Ret fun u w2 => u = .bool r ∧ Ext w w2) := by
  refine calls_of Tryd.func101 rfl Tryd.ntmps101 ?_
  have he0 : Ext w w := Ext.refl w
  unfold F_impl_IsClocks at hF
  refine WC.seq ?_
  refine WC.region ?_
  refine TL.yld rfl rfl (yld_assign rfl rfl) ?_
  refine TL.done ?_
  refine NX.seq ?_
  refine WC.seq ?_
  refine WC.seq ?_
  refine WC.region ?_
  refine TL.yld rfl rfl (yld_move rfl rfl) ?_
  refine TL.yld rfl rfl (ye_len (c := C_Clock) rfl Tryd.underlying26 rfl (slRep.old ha2 he0 (Nat.le_refl _))) ?_
  refine TL.yld rfl rfl (yld_gtr rfl rfl rfl) ?_
  refine TL.done ?_
  refine NX.seq ?_
  refine WC.cond rfl ?_ ?_
  · intro hc3
    replace hF := bif_t hc3 hF
    refine WC.seq ?_
    refine WC.region ?_
    refine TL.yld rfl rfl (yld_assign rfl rfl) ?_
    refine TL.done ?_
    refine NX.seq ?_
    refine WC.ret' ?_
    refine NX.then_r ?_
    obtain rfl := Option.some.inj hF
    exact NX.end (rs := [.tmp 2]) (vs := [.bool false]) rfl ⟨rfl, trivial⟩ ⟨_, rfl, rfl, he0⟩
  · intro hc4
    replace hF := bif_f hc4 hF
    refine WC.skip' ?_
    refine NX.seq ?_
    refine WC.seq ?_
    refine WC.region ?_
    refine TL.yld rfl rfl (yld_assign rfl rfl) ?_
    refine TL.done ?_
    refine NX.seq ?_
    refine WC.seq ?_
    refine WC.seq ?_
    refine WC.region ?_
    refine TL.yld rfl rfl (yld_move rfl rfl) ?_
    refine TL.yld rfl rfl (ye_len (c := C_Clock) rfl Tryd.underlying26 rfl (slRep.old ha2 he0 (Nat.le_refl _))) ?_
    refine TL.yld rfl rfl (yld_move rfl rfl) ?_
    refine TL.done ?_
    refine NX.seq ?_
    refine WC.block ?_
    have hs7 : ownR cStr w (w.heap.size) (Iv 0 0) 9 [] (.slice none 0 0) := ownR.nil _ _ _ _ _
    have hbd8 : ∀ q, (Value.slice none 0 0).ownBlock = some q → w.heap.size ≤ q ∧ q < w.heap.size := bd_nil
    refine WC.loop (fun m15 a wl => ∃ (l10 : List ByteArray) (v11 : Value) (i14 : Int), Kn 28 [(0, v1), (3, v11), (9, v1), (10, .int .i64 ((a0_list.length : Int))), (11, .int .i64 i14)] a ∧ Ext w wl ∧ w.heap.size ≤ wl.heap.size ∧ ownR cStr wl (w.heap.size) (Iv 0 0) 9 l10 v11 ∧ (∀ q, v11.ownBlock = some q → w.heap.size ≤ q ∧ q < wl.heap.size) ∧ F_impl_IsClocks_L1 n a0_list (fun l10 i14 => (Option.bind (F_impl_areNames n l10) fun r15 => (some r15))) m15 l10 i14 = some r) n ?_ ?_
    · intro a hK; exact ⟨(([] : List ByteArray)), ((.slice none 0 0)), 0, hK.weaken ⟨rfl, rfl, rfl, rfl, rfl, trivial⟩, he0, Nat.le_refl _, hs7, (fun g hg => by have := hbd8 g hg; omega), hF⟩
    · rintro m15 a w5 ⟨l10, v11, i14, hK, he6, hz16, hs12, hbd13, hF⟩
      revert hK; revert a; refine (?_ : WC _ _ _ _ _ _)
      cases m15 with
      | zero => rw [F_impl_IsClocks_L1_z] at hF; cases hF
      | succ m15 =>
        rw [F_impl_IsClocks_L1_s] at hF
        refine WC.seq ?_
        refine WC.region ?_
        refine TL.yld rfl rfl (yld_lss rfl rfl rfl) ?_
        refine TL.done ?_
        refine NX.seq ?_
        refine WC.seq ?_
        refine WC.cond rfl ?_ ?_
        · intro hc17
          replace hF := bif_t hc17 hF
          refine WC.skip' ?_
          refine NX.seq ?_
          refine WC.seq ?_
          refine WC.block ?_
          refine WC.seq ?_
          refine WC.region ?_
          refine TL.yld rfl rfl (yld_move rfl rfl) ?_
          obtain ⟨x18, hy19, hF⟩ := bsome hF
          refine TL.ye rfl rfl (ye_index (c := C_Clock) rfl Tryd.underlying26 cn_75 rfl rfl (slRep.old ha2 he6 (Nat.le_refl _)) hy19) ?_
          rintro _ ⟨b20, o21, us22, rfl, hib25, hr23, hcl24⟩
          have hib25 : 0 ≤ b20 ∧ b20 < w.heap.size := ⟨hib25.1, by have := hib25.2; omega⟩
          obtain rfl := C_Clock_open hr23
          refine TL.yld rfl rfl (yld_loadN (us := [.string x18.Name, .int .i64 x18.Place, .int .i64 x18.Period, .int .i64 x18.RiseAt, .int .i64 x18.FallAt, .int .i64 x18.Source, .int .i64 x18.Divide, .bool x18.Invert, .int .i64 x18.EarlyLatency, .int .i64 x18.LateLatency, .int .i64 x18.Uncertainty]) rfl ag_75 rfl hcl24 cn_75) ?_
          refine TL.eff rfl rfl (eff_alloc rfl zn_75) ?_
          rintro _ w27 ⟨b26, rfl, hn28⟩
          obtain ⟨hn28e, hn28s, hn28x, hb29⟩ := hn28
          have hb29 : Box w27 b26 [.string ByteArray.empty, .int .i64 0, .int .i64 0, .int .i64 0, .int .i64 0, .int .i64 0, .int .i64 0, .bool false, .int .i64 0, .int .i64 0, .int .i64 0] 75 := hb29
          have he31 : Ext w w27 := Ext.trans he6 hn28x
          have hs12 := ownR.ext hs12 hn28x
          have hz32 := (hn28x).size
          have hlo30 : w.heap.size ≤ b26 := by rw [hn28e]; exact (he6).size
          refine TL.yld rfl rfl (yld_assign rfl rfl) ?_
          refine TL.eff rfl rfl (eff_store rfl rfl rfl hb29 cn_75 rfl rfl) ?_
          rintro _ w33 ⟨hu34, hb35⟩
          have he36 : Ext w w33 := Below.trans he31 (Upd.below hu34 (by omega))
          have hs12 := ownR.upd hs12 hu34 (fun g hg => by have := hbd13 g hg; omega)
          have hz37 := (hu34).size
          have hb29 : Box w33 b26 [.string x18.Name, .int .i64 x18.Place, .int .i64 x18.Period, .int .i64 x18.RiseAt, .int .i64 x18.FallAt, .int .i64 x18.Source, .int .i64 x18.Divide, .bool x18.Invert, .int .i64 x18.EarlyLatency, .int .i64 x18.LateLatency, .int .i64 x18.Uncertainty] 75 := hb35
          refine TL.done ?_
          refine NX.seq ?_
          refine WC.seq ?_
          refine WC.seq ?_
          refine WC.region ?_
          refine TL.yld rfl rfl (yld_move rfl rfl) ?_
          refine TL.yld rfl rfl (yld_move rfl rfl) ?_
          obtain ⟨r38, hr39, hF⟩ := bsome hF
          refine TL.eff rfl rfl (eff_call rfl gf_134 rfl (W_impl_isClock hr39 ((slRep.old ha2 he36 (Nat.le_refl _)).wide (Nat.le_refl _) (he36).size))) ?_
          rintro _ w40 ⟨rfl, hx41⟩
          have he42 : Ext w w40 := Ext.trans he36 hx41
          have hb29 := Box.ext hb29 hx41
          have hs12 := ownR.ext hs12 hx41
          have hz43 := (hx41).size
          refine TL.yld rfl rfl (yld_not rfl rfl) ?_
          refine TL.done ?_
          refine NX.seq ?_
          refine WC.cond rfl ?_ ?_
          · intro hc44
            replace hF := bif_t hc44 hF
            refine WC.seq ?_
            refine WC.region ?_
            refine TL.yld rfl rfl (yld_assign rfl rfl) ?_
            refine TL.done ?_
            refine NX.seq ?_
            refine WC.ret' ?_
            refine NX.then_r ?_
            refine NX.blk_r ?_
            refine NX.then_r ?_
            refine NX.then_r ?_
            refine NX.blk_r ?_
            refine NX.then_r ?_
            obtain rfl := Option.some.inj hF
            exact NX.end (rs := [.tmp 2]) (vs := [.bool false]) rfl ⟨rfl, trivial⟩ ⟨_, rfl, rfl, he42⟩
          · intro hc45
            replace hF := bif_f hc45 hF
            refine WC.skip' ?_
            refine NX.seq ?_
            refine WC.region ?_
            refine TL.yld rfl rfl (yld_move rfl rfl) ?_
            refine TL.yld rfl rfl (yld_fieldAddr rfl fo_75_0 rfl) ?_
            refine TL.yld rfl rfl (yld_load1 0 rfl ag_9 rfl (Box.cells hb29) rfl rfl) ?_
            refine TL.eff rfl rfl (eff_buildSlice (c := cStr) (xs := [x18.Name]) (S := (Iv 0 0)) (uss := [(0, [.string x18.Name])]) (out := [.string x18.Name]) rfl Tryd.underlying133 in_9 rfl rfl (fillL_all [[.string x18.Name]] rfl rfl rfl) rfl rfl rfl rfl (one_rep (uss := [[.string x18.Name]]) (show reps _ _ _ _ _ from ⟨rfl, trivial⟩) rfl) (fun k h => by have := h.2; omega) rfl) ?_
            rintro v46 w47 ⟨g48, hv49, hg50, hz51, hx52, hs53⟩
            have he54 : Ext w w47 := Ext.trans he42 hx52
            have hb29 := Box.ext hb29 hx52
            have hs12 := ownR.ext hs12 hx52
            have hz55 := (hx52).size
            have hlo56 : w.heap.size ≤ g48 := by rw [hg50]; exact (he42).size
            have hbd57 := bd_of hv49
            clear hv49
            obtain ⟨z59, ha60, hF⟩ := bsome hF
            refine TL.eff rfl rfl (eff_appendF (c := cStr) rfl Tryd.underlying133 in_9 rfl rfl rfl rfl rfl hs12 (by omega) (ownR.slf hs53 (Nat.le_refl _) (Nat.le_refl _)) ha60) ?_
            rintro v61 w62 ⟨hs63, hgr64⟩
            have he66 : Ext w w62 := Below.trans he54 (Grew.low hgr64 (fun g hg => by have := hbd13 g hg; omega) (he54).size)
            have hp67 : ∀ g, v61.ownBlock = some g → g ≠ b26 := Grew.sepP (p := fun g => g ≠ b26) hgr64 (fun g hg => by have := hbd13 g hg; omega) (fun g hg => by omega)
            have hb29 := Grew.box hgr64 hb29 (fun g hg => by have := hbd13 g hg; omega)
            have hp68 : ∀ g q, v11.ownBlock = some g → v46.ownBlock = some q → g ≠ q := (fun g q hg hq => by have := hbd13 g hg; have := hbd57 q hq; omega)
            have hp69 : ∀ g q, v61.ownBlock = some g → v46.ownBlock = some q → g ≠ q := fun g q hg hq => Grew.sepP (p := fun g => ∀ q, v46.ownBlock = some q → g ≠ q) hgr64 (fun g hg q hq => (hp68) g q hg hq) (fun g hg q hq => by have := hbd57 q hq; omega) g hg q hq
            have hs53 := Grew.ownF hgr64 hs53 hp68
            have hz70 := (hgr64).1.size
            have hbd71 : ∀ g, v61.ownBlock = some g → w.heap.size ≤ g ∧ g < w62.heap.size := Grew.bd hgr64 hs63 (fun g hg => ⟨by have := hbd13 g hg; omega, (hbd13 g hg).2⟩) (by omega) (by omega)
            refine TL.yld rfl rfl (yld_assign rfl rfl) ?_
            refine TL.done ?_
            refine NX.blk_n ?_
            refine NX.seq ?_
            refine WC.region ?_
            refine TL.yld rfl rfl (yld_add rfl rfl rfl) ?_
            refine TL.yld rfl rfl (yld_move rfl rfl) ?_
            refine TL.done ?_
            refine NX.then_n ?_
            intro a hK; exact ⟨m15, Nat.lt_succ_self m15, z59, v61, (IntKind.wrap IntKind.i64 (i14 + 1)), hK.weaken ⟨rfl, rfl, rfl, rfl, rfl, trivial⟩, he66, (by omega), hs63, (fun g hg => by have := hbd71 g hg; omega), hF⟩
        · intro hc72
          replace hF := bif_f hc72 hF
          refine WC.exit' ?_
          refine NX.then_e ?_
          refine NX.then_e ?_
          refine NX.blk_hit ?_
          refine NX.seq ?_
          refine WC.seq ?_
          refine WC.region ?_
          refine TL.yld rfl rfl (yld_move rfl rfl) ?_
          obtain ⟨r73, hr74, hF⟩ := bsome hF
          refine TL.eff rfl rfl (eff_call rfl gf_135 rfl (W_impl_areNames hr74 (ownR.slf hs12 (Nat.zero_le _) (Nat.le_refl _)))) ?_
          rintro _ w75 ⟨rfl, hx76⟩
          have he77 : Ext w w75 := Ext.trans he6 hx76
          have hs12 := ownR.ext hs12 hx76
          have hz78 := (hx76).size
          refine TL.yld rfl rfl (yld_assign rfl rfl) ?_
          refine TL.done ?_
          refine NX.seq ?_
          refine WC.ret' ?_
          obtain rfl := Option.some.inj hF
          exact NX.end (rs := [.tmp 2]) (vs := [.bool r73]) rfl ⟨rfl, trivial⟩ ⟨_, rfl, rfl, he77⟩

-- loop.example/g00861/impl.length[loop.example/g00861/impl.Clock]
def F_impl_length_impl_Clock (n : Nat) (a0_list : List S_Clock) : Option Int := (some ((a0_list.length : Int)))
set_option maxHeartbeats 40000000 in
theorem W_impl_length_impl_Clock {n : Nat} {a0_list : List S_Clock} {r : Int} {w : World} {v1 : Value} (hF : F_impl_length_impl_Clock n a0_list = some r) (ha2 : slRep C_Clock w (Iv 0 w.heap.size) a0_list v1) :
    Calls Tryd.prog 102 [v1].toArray w (Ret fun u w2 => u = .int .i64 r ∧ Ext w w2) := by
  refine calls_of Tryd.func102 rfl Tryd.ntmps102 ?_
  have he0 : Ext w w := Ext.refl w
  unfold F_impl_length_impl_Clock at hF
  refine WC.seq ?_
  refine WC.region ?_
  refine TL.yld rfl rfl (yld_assign rfl rfl) ?_
  refine TL.done ?_
  refine NX.seq ?_
  refine WC.seq ?_
  refine WC.region ?_
  refine TL.yld rfl rfl (yld_move rfl rfl) ?_
  refine TL.yld rfl rfl (ye_len (c := C_Clock) rfl Tryd.underlying26 rfl (slRep.old ha2 he0 (Nat.le_refl _))) ?_
  refine TL.yld rfl rfl (yld_assign rfl rfl) ?_
  refine TL.done ?_
  refine NX.seq ?_
  refine WC.ret' ?_
  obtain rfl := Option.some.inj hF
  exact NX.end (rs := [.tmp 2]) (vs := [.int .i64 ((a0_list.length : Int))]) rfl ⟨rfl, trivial⟩ ⟨_, rfl, rfl, he0⟩

-- loop.example/g00861/impl.clockCode
def F_impl_clockCode (n : Nat) (a0_list : List S_Clock) (a1_clocks : List Int) : Option Int := (Option.bind (F_impl_IsClocks n a0_list) fun r5 => (bif (!r5) then (some 1) else (Option.bind (F_impl_length_impl_Clock n a0_list) fun r13 => (Option.bind (F_impl_areWithin n a1_clocks 0 (IntKind.wrap IntKind.i64 (r13 - 1))) fun r19 => (bif (!r19) then (some 4) else (some 0))))))
set_option maxHeartbeats 40000000 in
theorem W_impl_clockCode {n : Nat} {a0_list : List S_Clock} {a1_clocks : List Int} {r : Int} {w : World} {v1 : Value} {v3 : Value} (hF : F_impl_clockCode n a0_list a1_clocks = some r) (ha2 : slRep C_Clock w (Iv 0 w.heap.size) a0_list v1) (ha4 : slRep (cInt .i64) w (Iv 0 w.heap.size) a1_clocks v3) :
    Calls Tryd.prog 60 [v1, v3].toArray w (Ret fun u w2 => u = .int .i64 r ∧ Ext w w2) := by
  refine calls_of Tryd.func60 rfl Tryd.ntmps60 ?_
  have he0 : Ext w w := Ext.refl w
  unfold F_impl_clockCode at hF
  refine WC.seq ?_
  refine WC.region ?_
  refine TL.yld rfl rfl (yld_assign rfl rfl) ?_
  refine TL.done ?_
  refine NX.seq ?_
  refine WC.seq ?_
  refine WC.block ?_
  refine WC.seq ?_
  refine WC.region ?_
  refine TL.yld rfl rfl (yld_move rfl rfl) ?_
  obtain ⟨r5, hr6, hF⟩ := bsome hF
  refine TL.eff rfl rfl (eff_call rfl gf_101 rfl (W_impl_IsClocks hr6 ((slRep.old ha2 he0 (Nat.le_refl _)).wide (Nat.le_refl _) (he0).size))) ?_
  rintro _ w7 ⟨rfl, hx8⟩
  have he9 : Ext w w7 := Ext.trans he0 hx8
  have hz10 := (hx8).size
  refine TL.yld rfl rfl (yld_not rfl rfl) ?_
  refine TL.yld rfl rfl (yld_assign rfl rfl) ?_
  refine TL.done ?_
  refine NX.seq ?_
  refine WC.cond rfl ?_ ?_
  · intro hc11
    replace hF := bif_t hc11 hF
    refine WC.seq ?_
    refine WC.region ?_
    refine TL.yld rfl rfl (yld_assign rfl rfl) ?_
    refine TL.done ?_
    refine NX.seq ?_
    refine WC.ret' ?_
    refine NX.blk_r ?_
    refine NX.then_r ?_
    obtain rfl := Option.some.inj hF
    exact NX.end (rs := [.tmp 4]) (vs := [.int .i64 1]) rfl ⟨rfl, trivial⟩ ⟨_, rfl, rfl, he9⟩
  · intro hc12
    replace hF := bif_f hc12 hF
    refine WC.seq ?_
    refine WC.region ?_
    refine TL.yld rfl rfl (yld_move rfl rfl) ?_
    refine TL.yld rfl rfl (yld_move rfl rfl) ?_
    obtain ⟨r13, hr14, hF⟩ := bsome hF
    refine TL.eff rfl rfl (eff_call rfl gf_102 rfl (W_impl_length_impl_Clock hr14 ((slRep.old ha2 he9 (Nat.le_refl _)).wide (Nat.le_refl _) (he9).size))) ?_
    rintro _ w15 ⟨rfl, hx16⟩
    have he17 : Ext w w15 := Ext.trans he9 hx16
    have hz18 := (hx16).size
    refine TL.yld rfl rfl (yld_sub rfl rfl rfl) ?_
    obtain ⟨r19, hr20, hF⟩ := bsome hF
    refine TL.eff rfl rfl (eff_call rfl gf_82 rfl (W_impl_areWithin hr20 ((slRep.old ha4 he17 (Nat.le_refl _)).wide (Nat.le_refl _) (he17).size))) ?_
    rintro _ w21 ⟨rfl, hx22⟩
    have he23 : Ext w w21 := Ext.trans he17 hx22
    have hz24 := (hx22).size
    refine TL.yld rfl rfl (yld_not rfl rfl) ?_
    refine TL.yld rfl rfl (yld_assign rfl rfl) ?_
    refine TL.done ?_
    refine NX.seq ?_
    refine WC.cond rfl ?_ ?_
    · intro hc25
      replace hF := bif_t hc25 hF
      refine WC.seq ?_
      refine WC.region ?_
      refine TL.yld rfl rfl (yld_assign rfl rfl) ?_
      refine TL.done ?_
      refine NX.seq ?_
      refine WC.ret' ?_
      refine NX.blk_r ?_
      refine NX.then_r ?_
      obtain rfl := Option.some.inj hF
      exact NX.end (rs := [.tmp 4]) (vs := [.int .i64 4]) rfl ⟨rfl, trivial⟩ ⟨_, rfl, rfl, he23⟩
    · intro hc26
      replace hF := bif_f hc26 hF
      refine WC.skip' ?_
      refine NX.blk_n ?_
      refine NX.seq ?_
      refine WC.seq ?_
      refine WC.region ?_
      refine TL.yld rfl rfl (yld_assign rfl rfl) ?_
      refine TL.done ?_
      refine NX.seq ?_
      refine WC.ret' ?_
      obtain rfl := Option.some.inj hF
      exact NX.end (rs := [.tmp 4]) (vs := [.int .i64 0]) rfl ⟨rfl, trivial⟩ ⟨_, rfl, rfl, he23⟩

-- loop.example/g00861/impl.gcd
def F_impl_gcd_L1 (k0 : Int → Int → Option Int) : Nat → Int → Int → Option Int
  | 0 => fun _ _ => none
  | m + 1 => fun i3 i4 => (bif (i4 != 0) then (bif (i4 == 0) then none else (F_impl_gcd_L1 k0 m i4 (Int.tmod i3 i4))) else (k0 i3 i4))
theorem F_impl_gcd_L1_z (k0 : Int → Int → Option Int) (i3 : Int) (i4 : Int) : F_impl_gcd_L1 k0 0 i3 i4 = none := rfl
theorem F_impl_gcd_L1_s (m : Nat) (k0 : Int → Int → Option Int) (i3 : Int) (i4 : Int) : F_impl_gcd_L1 k0 (m + 1) i3 i4 = (bif (i4 != 0) then (bif (i4 == 0) then none else (F_impl_gcd_L1 k0 m i4 (Int.tmod i3 i4))) else (k0 i3 i4)) := rfl

def F_impl_gcd (n : Nat) (a0_a : Int) (a1_b : Int) : Option Int := (F_impl_gcd_L1 (fun i3 i4 => (some i3)) n a0_a a1_b)
set_option maxHeartbeats 40000000 in
theorem W_impl_gcd {n : Nat} {a0_a : Int} {a1_b : Int} {r : Int} {w : World} (hF : F_impl_gcd n a0_a a1_b = some r) :
    Calls Tryd.prog 103 [.int .i64 a0_a, .int .i64 a1_b].toArray w (Ret fun u w2 => u = .int .i64 r ∧ Ext w w2) := by
  refine calls_of Tryd.func103 rfl Tryd.ntmps103 ?_
  have he0 : Ext w w := Ext.refl w
  unfold F_impl_gcd at hF
  refine WC.seq ?_
  refine WC.region ?_
  refine TL.yld rfl rfl (yld_assign rfl rfl) ?_
  refine TL.done ?_
  refine NX.seq ?_
  refine WC.seq ?_
  refine WC.block ?_
  refine WC.loop (fun m5 a wl => ∃ (i3 : Int) (i4 : Int), Kn 12 [(0, .int .i64 i3), (1, .int .i64 i4)] a ∧ Ext w wl ∧ w.heap.size ≤ wl.heap.size ∧ F_impl_gcd_L1 (fun i3 i4 => (some i3)) m5 i3 i4 = some r) n ?_ ?_
  · intro a hK; exact ⟨a0_a, a1_b, hK.weaken ⟨rfl, rfl, trivial⟩, he0, Nat.le_refl _, hF⟩
  · rintro m5 a w1 ⟨i3, i4, hK, he2, hz6, hF⟩
    revert hK; revert a; refine (?_ : WC _ _ _ _ _ _)
    cases m5 with
    | zero => rw [F_impl_gcd_L1_z] at hF; cases hF
    | succ m5 =>
      rw [F_impl_gcd_L1_s] at hF
      refine WC.seq ?_
      refine WC.seq ?_
      refine WC.region ?_
      refine TL.yld rfl rfl (yld_move rfl rfl) ?_
      refine TL.yld rfl rfl (yld_neq rfl rfl rfl) ?_
      refine TL.done ?_
      refine NX.seq ?_
      refine WC.cond rfl ?_ ?_
      · intro hc7
        replace hF := bif_t hc7 hF
        refine WC.skip' ?_
        refine NX.seq ?_
        refine WC.block ?_
        refine WC.quiet Tryd.hm (by kernel_rfl) ?_
        refine QL.yld rfl rfl (Yld.qui (yld_move rfl rfl)) ?_
        refine QL.yld rfl rfl (Yld.qui (yld_move rfl rfl)) ?_
        refine QL.yld rfl rfl (Yld.qui (yld_move rfl rfl)) ?_
        obtain ⟨hn8, hF⟩ := nzero hF
        refine QL.yld rfl rfl (Yld.qui (yld_rem rfl rfl rfl hn8)) ?_
        refine QL.yld rfl rfl (Yld.qui (yld_assign rfl rfl)) ?_
        refine QL.yld rfl rfl (Yld.qui (yld_assign rfl rfl)) ?_
        refine QL.done fun w9 hx10 => ?_
        have he11 : Ext w w9 := Ext.trans he2 hx10
        have hz12 := (hx10).size
        refine NX.blk_n ?_
        refine NX.then_n ?_
        intro a hK; exact ⟨m5, Nat.lt_succ_self m5, i4, (Int.tmod i3 i4), hK.weaken ⟨rfl, rfl, trivial⟩, he11, (by omega), hF⟩
      · intro hc13
        replace hF := bif_f hc13 hF
        refine WC.exit' ?_
        refine NX.then_e ?_
        refine NX.then_e ?_
        refine NX.blk_hit ?_
        refine NX.seq ?_
        refine WC.seq ?_
        refine WC.region ?_
        refine TL.yld rfl rfl (yld_move rfl rfl) ?_
        refine TL.yld rfl rfl (yld_assign rfl rfl) ?_
        refine TL.done ?_
        refine NX.seq ?_
        refine WC.ret' ?_
        obtain rfl := Option.some.inj hF
        exact NX.end (rs := [.tmp 4]) (vs := [.int .i64 i3]) rfl ⟨rfl, trivial⟩ ⟨_, rfl, rfl, he2⟩

-- loop.example/g00861/impl.hyperPeriod
def F_impl_hyperPeriod (n : Nat) (a0_list : List S_Clock) (a1_a : Int) (a2_b : Int) : Option Int := (Option.bind (F_impl_waveOf n a0_list a1_a) fun r3 => (Option.bind (F_impl_waveOf n a0_list a2_b) fun r9 => (Option.bind (F_impl_gcd n r3.period_ r9.period_) fun r15 => (bif (r15 == 0) then none else (some (IntKind.wrap IntKind.i64 ((IntKind.wrap IntKind.i64 (Int.tdiv r3.period_ r15)) * r9.period_)))))))
set_option maxHeartbeats 40000000 in
theorem W_impl_hyperPeriod {n : Nat} {a0_list : List S_Clock} {a1_a : Int} {a2_b : Int} {r : Int} {w : World} {v1 : Value} (hF : F_impl_hyperPeriod n a0_list a1_a a2_b = some r) (ha2 : slRep C_Clock w (Iv 0 w.heap.size) a0_list v1) :
    Calls Tryd.prog 61 [v1, .int .i64 a1_a, .int .i64 a2_b].toArray w (Ret fun u w2 => u = .int .i64 r ∧ Ext w w2) := by
  refine calls_of Tryd.func61 rfl Tryd.ntmps61 ?_
  have he0 : Ext w w := Ext.refl w
  unfold F_impl_hyperPeriod at hF
  refine WC.seq ?_
  refine WC.region ?_
  refine TL.yld rfl rfl (yld_assign rfl rfl) ?_
  refine TL.done ?_
  refine NX.seq ?_
  refine WC.seq ?_
  refine WC.region ?_
  refine TL.yld rfl rfl (yld_move rfl rfl) ?_
  refine TL.yld rfl rfl (yld_move rfl rfl) ?_
  obtain ⟨r3, hr4, hF⟩ := bsome hF
  refine TL.eff rfl rfl (eff_call rfl gf_64 rfl (W_impl_waveOf hr4 ((slRep.old ha2 he0 (Nat.le_refl _)).wide (Nat.le_refl _) (he0).size))) ?_
  rintro _ w5 ⟨rfl, hx6⟩
  have he7 : Ext w w5 := Ext.trans he0 hx6
  have hz8 := (hx6).size
  refine TL.yld rfl rfl (yld_field1 rfl ft_84_0 ag_2 rfl rfl) ?_
  refine TL.yld rfl rfl (yld_move rfl rfl) ?_
  refine TL.yld rfl rfl (yld_move rfl rfl) ?_
  obtain ⟨r9, hr10, hF⟩ := bsome hF
  refine TL.eff rfl rfl (eff_call rfl gf_64 rfl (W_impl_waveOf hr10 ((slRep.old ha2 he7 (Nat.le_refl _)).wide (Nat.le_refl _) (he7).size))) ?_
  rintro _ w11 ⟨rfl, hx12⟩
  have he13 : Ext w w11 := Ext.trans he7 hx12
  have hz14 := (hx12).size
  refine TL.yld rfl rfl (yld_field1 rfl ft_84_0 ag_2 rfl rfl) ?_
  refine TL.yld rfl rfl (yld_assign rfl rfl) ?_
  refine TL.yld rfl rfl (yld_assign rfl rfl) ?_
  refine TL.done ?_
  refine NX.seq ?_
  refine WC.seq ?_
  refine WC.region ?_
  refine TL.yld rfl rfl (yld_move rfl rfl) ?_
  refine TL.yld rfl rfl (yld_move rfl rfl) ?_
  refine TL.yld rfl rfl (yld_move rfl rfl) ?_
  obtain ⟨r15, hr16, hF⟩ := bsome hF
  refine TL.eff rfl rfl (eff_call rfl gf_103 rfl (W_impl_gcd hr16)) ?_
  rintro _ w17 ⟨rfl, hx18⟩
  have he19 : Ext w w17 := Ext.trans he13 hx18
  have hz20 := (hx18).size
  obtain ⟨hn21, hF⟩ := nzero hF
  refine TL.yld rfl rfl (yld_quo rfl rfl rfl hn21) ?_
  refine TL.yld rfl rfl (yld_move rfl rfl) ?_
  refine TL.yld rfl rfl (yld_mul rfl rfl rfl) ?_
  refine TL.yld rfl rfl (yld_assign rfl rfl) ?_
  refine TL.done ?_
  refine NX.seq ?_
  refine WC.ret' ?_
  obtain rfl := Option.some.inj hF
  exact NX.end (rs := [.tmp 6]) (vs := [.int .i64 (IntKind.wrap IntKind.i64 ((IntKind.wrap IntKind.i64 (Int.tdiv r3.period_ r15)) * r9.period_))]) rfl ⟨rfl, trivial⟩ ⟨_, rfl, rfl, he19⟩

-- loop.example/g00861/impl.isTransition
def F_impl_isTransition (n : Nat) (a0_n : Int) : Option Bool := (some ((((a0_n == 0)) || ((a0_n == 1)))))
set_option maxHeartbeats 40000000 in
theorem W_impl_isTransition {n : Nat} {a0_n : Int} {r : Bool} {w : World} (hF : F_impl_isTransition n a0_n = some r) :
    Calls Tryd.prog 62 [.int .i64 a0_n].toArray w (Ret fun u w2 => u = .bool r ∧ Ext w w2) := by
  refine calls_of Tryd.func62 rfl Tryd.ntmps62 ?_
  have he0 : Ext w w := Ext.refl w
  unfold F_impl_isTransition at hF
  refine WC.seq ?_
  refine WC.region ?_
  refine TL.yld rfl rfl (yld_assign rfl rfl) ?_
  refine TL.done ?_
  refine NX.seq ?_
  refine WC.seq ?_
  refine WC.region ?_
  refine TL.yld rfl rfl (yld_move rfl rfl) ?_
  refine TL.yld rfl rfl (yld_eql rfl rfl rfl) ?_
  refine TL.yld rfl rfl (yld_move rfl rfl) ?_
  refine TL.cut 3 [(8, .bool ((((a0_n == 0)) || ((a0_n == 1)))))] (fun w' => Ext w w') ?_ ?_
  · rcases Bool.eq_false_or_eq_true ((a0_n == 0)) with hg1 | hg1
    ·
      refine TL.gnu (j := 2) (t := 5) rfl rfl rfl hg1 rfl ?_
      refine TL.gnu (j := 2) (t := 5) rfl rfl rfl hg1 rfl ?_
      refine TL.yld rfl rfl (yld_or_t (b2 := (a0_n == 1)) rfl rfl hg1 rfl) ?_
      exact TL.nil fun a h => ⟨h.weaken ⟨rfl, trivial⟩, Ext.refl _⟩
    ·
      refine TL.gy (j := 2) (t := 5) rfl rfl rfl hg1 rfl (yld_move rfl rfl) ?_
      refine TL.gy (j := 2) (t := 5) rfl rfl rfl hg1 rfl (yld_eql rfl rfl rfl) ?_
      refine TL.yld rfl rfl (yld_or_f rfl rfl hg1 rfl) ?_
      exact TL.nil fun a h => ⟨h.weaken ⟨rfl, trivial⟩, Ext.refl _⟩
  intro w2 hx3
  have he4 : Ext w w2 := Ext.trans he0 hx3
  have hz5 := (hx3).size
  refine TL.yld rfl rfl (yld_assign rfl rfl) ?_
  refine TL.done ?_
  refine NX.seq ?_
  refine WC.ret' ?_
  obtain rfl := Option.some.inj hF
  exact NX.end (rs := [.tmp 2]) (vs := [.bool ((((a0_n == 0)) || ((a0_n == 1))))]) rfl ⟨rfl, trivial⟩ ⟨_, rfl, rfl, he4⟩

-- loop.example/g00861/impl.rootOf
def F_impl_rootOf_L1 (a0_list : List S_Clock) (k0 : Int → Option Int) : Nat → Int → Option Int
  | 0 => fun _ => none
  | m + 1 => fun i5 => (Option.bind (getI a0_list i5) fun x6 => (bif decide (x6.Source ≥ 0) then (Option.bind (getI a0_list i5) fun x15 => (F_impl_rootOf_L1 a0_list k0 m x15.Source)) else (k0 i5)))
theorem F_impl_rootOf_L1_z (a0_list : List S_Clock) (k0 : Int → Option Int) (i5 : Int) : F_impl_rootOf_L1 a0_list k0 0 i5 = none := rfl
theorem F_impl_rootOf_L1_s (m : Nat) (a0_list : List S_Clock) (k0 : Int → Option Int) (i5 : Int) : F_impl_rootOf_L1 a0_list k0 (m + 1) i5 = (Option.bind (getI a0_list i5) fun x6 => (bif decide (x6.Source ≥ 0) then (Option.bind (getI a0_list i5) fun x15 => (F_impl_rootOf_L1 a0_list k0 m x15.Source)) else (k0 i5))) := rfl

def F_impl_rootOf (n : Nat) (a0_list : List S_Clock) (a1_k : Int) : Option Int := (F_impl_rootOf_L1 a0_list (fun i5 => (some i5)) n a1_k)
set_option maxHeartbeats 40000000 in
theorem W_impl_rootOf {n : Nat} {a0_list : List S_Clock} {a1_k : Int} {r : Int} {w : World} {v1 : Value} (hF : F_impl_rootOf n a0_list a1_k = some r) (ha2 : slRep C_Clock w (Iv 0 w.heap.size) a0_list v1) :
    Calls Tryd.prog 97 [v1, .int .i64 a1_k].toArray w (Ret fun u w2 => u = .int .i64 r ∧ Ext w w2) := by
  refine calls_of Tryd.func97 rfl Tryd.ntmps97 ?_
  have he0 : Ext w w := Ext.refl w
  unfold F_impl_rootOf at hF
  refine WC.seq ?_
  refine WC.region ?_
  refine TL.yld rfl rfl (yld_assign rfl rfl) ?_
  refine TL.done ?_
  refine NX.seq ?_
  refine WC.seq ?_
  refine WC.block ?_
  refine WC.loop (fun m6 a wl => ∃ (i5 : Int), Kn 17 [(0, v1), (1, .int .i64 i5)] a ∧ Ext w wl ∧ w.heap.size ≤ wl.heap.size ∧ F_impl_rootOf_L1 a0_list (fun i5 => (some i5)) m6 i5 = some r) n ?_ ?_
  · intro a hK; exact ⟨a1_k, hK.weaken ⟨rfl, rfl, trivial⟩, he0, Nat.le_refl _, hF⟩
  · rintro m6 a w3 ⟨i5, hK, he4, hz7, hF⟩
    revert hK; revert a; refine (?_ : WC _ _ _ _ _ _)
    cases m6 with
    | zero => rw [F_impl_rootOf_L1_z] at hF; cases hF
    | succ m6 =>
      rw [F_impl_rootOf_L1_s] at hF
      refine WC.seq ?_
      refine WC.seq ?_
      refine WC.region ?_
      refine TL.yld rfl rfl (yld_move rfl rfl) ?_
      refine TL.yld rfl rfl (yld_move rfl rfl) ?_
      obtain ⟨x8, hy9, hF⟩ := bsome hF
      refine TL.ye rfl rfl (ye_index (c := C_Clock) rfl Tryd.underlying26 cn_75 rfl rfl (slRep.old ha2 he4 (Nat.le_refl _)) hy9) ?_
      rintro _ ⟨b10, o11, us12, rfl, hib15, hr13, hcl14⟩
      have hib15 : 0 ≤ b10 ∧ b10 < w.heap.size := ⟨hib15.1, by have := hib15.2; omega⟩
      obtain rfl := C_Clock_open hr13
      refine TL.yld rfl rfl (yld_fieldAddr rfl fo_75_5 rfl) ?_
      refine TL.yld rfl rfl (yld_load1 5 rfl ag_2 rfl hcl14 rfl rfl) ?_
      refine TL.yld rfl rfl (yld_geq rfl rfl rfl) ?_
      refine TL.done ?_
      refine NX.seq ?_
      refine WC.cond rfl ?_ ?_
      · intro hc16
        replace hF := bif_t hc16 hF
        refine WC.skip' ?_
        refine NX.seq ?_
        refine WC.block ?_
        refine WC.region ?_
        refine TL.yld rfl rfl (yld_move rfl rfl) ?_
        refine TL.yld rfl rfl (yld_move rfl rfl) ?_
        obtain ⟨x17, hy18, hF⟩ := bsome hF
        refine TL.ye rfl rfl (ye_index (c := C_Clock) rfl Tryd.underlying26 cn_75 rfl rfl (slRep.old ha2 he4 (Nat.le_refl _)) hy18) ?_
        rintro _ ⟨b19, o20, us21, rfl, hib24, hr22, hcl23⟩
        have hib24 : 0 ≤ b19 ∧ b19 < w.heap.size := ⟨hib24.1, by have := hib24.2; omega⟩
        obtain rfl := C_Clock_open hr22
        refine TL.yld rfl rfl (yld_fieldAddr rfl fo_75_5 rfl) ?_
        refine TL.yld rfl rfl (yld_load1 5 rfl ag_2 rfl hcl23 rfl rfl) ?_
        refine TL.yld rfl rfl (yld_assign rfl rfl) ?_
        refine TL.done ?_
        refine NX.blk_n ?_
        refine NX.then_n ?_
        intro a hK; exact ⟨m6, Nat.lt_succ_self m6, x17.Source, hK.weaken ⟨rfl, rfl, trivial⟩, he4, (by omega), hF⟩
      · intro hc25
        replace hF := bif_f hc25 hF
        refine WC.exit' ?_
        refine NX.then_e ?_
        refine NX.then_e ?_
        refine NX.blk_hit ?_
        refine NX.seq ?_
        refine WC.seq ?_
        refine WC.region ?_
        refine TL.yld rfl rfl (yld_move rfl rfl) ?_
        refine TL.yld rfl rfl (yld_assign rfl rfl) ?_
        refine TL.done ?_
        refine NX.seq ?_
        refine WC.ret' ?_
        obtain rfl := Option.some.inj hF
        exact NX.end (rs := [.tmp 4]) (vs := [.int .i64 i5]) rfl ⟨rfl, trivial⟩ ⟨_, rfl, rfl, he4⟩

-- loop.example/g00861/impl.edgesOf
def F_impl_edgesOf (n : Nat) (a0_list : List S_Clock) (a1_a : Int) (a2_ea : Int) (a3_b : Int) (a4_eb : Int) : Option (S_edges × Int) := (Option.bind (F_impl_clockCode n a0_list ([a1_a, a3_b])) fun r23 => (bif (r23 != 0) then (some ((S_edges.mk ((S_wave.mk 0 ((A2_Int.mk 0 0)))) ((S_wave.mk 0 ((A2_Int.mk 0 0)))) 0 0 0), r23)) else (Option.bind (F_impl_isTransition n a2_ea) fun r36 => (Option.bind (bif (!r36) then (some true) else (Option.bind (F_impl_isTransition n a4_eb) fun r42 => (some (!r42)))) fun c42 => (bif c42 then (some ((S_edges.mk ((S_wave.mk 0 ((A2_Int.mk 0 0)))) ((S_wave.mk 0 ((A2_Int.mk 0 0)))) 0 0 0), 2)) else (Option.bind (F_impl_rootOf n a0_list a1_a) fun r62 => (Option.bind (F_impl_rootOf n a0_list a3_b) fun r68 => (bif (r62 != r68) then (some ((S_edges.mk ((S_wave.mk 0 ((A2_Int.mk 0 0)))) ((S_wave.mk 0 ((A2_Int.mk 0 0)))) 0 0 0), 5)) else (Option.bind (F_impl_waveOf n a0_list a1_a) fun r81 => (Option.bind (F_impl_waveOf n a0_list a3_b) fun r87 => (Option.bind (F_impl_hyperPeriod n a0_list a1_a a3_b) fun r93 => (Option.bind (bif decide (r93 > 100000000) then (some true) else (bif (r81.period_ == 0) then none else (some (decide (IntKind.wrap IntKind.i64 (Int.tdiv r93 r81.period_) > 200))))) fun c111 => (bif c111 then (some ((S_edges.mk ((S_wave.mk 0 ((A2_Int.mk 0 0)))) ((S_wave.mk 0 ((A2_Int.mk 0 0)))) 0 0 0), 3)) else (some ((S_edges.mk r81 r87 a2_ea a4_eb r93), 0)))))))))))))))
set_option maxHeartbeats 40000000 in
theorem W_impl_edgesOf {n : Nat} {a0_list : List S_Clock} {a1_a : Int} {a2_ea : Int} {a3_b : Int} {a4_eb : Int} {r : S_edges × Int} {w : World} {v1 : Value} (hF : F_impl_edgesOf n a0_list a1_a a2_ea a3_b a4_eb = some r) (ha2 : slRep C_Clock w (Iv 0 w.heap.size) a0_list v1) :
    Calls Tryd.prog 53 [v1, .int .i64 a1_a, .int .i64 a2_ea, .int .i64 a3_b, .int .i64 a4_eb].toArray w (Ret fun u w2 => u = .tuple #[.agg #[.int .i64 r.1.from_.period_, .int .i64 r.1.from_.edges_.e0, .int .i64 r.1.from_.edges_.e1, .int .i64 r.1.to_.period_, .int .i64 r.1.to_.edges_.e0, .int .i64 r.1.to_.edges_.e1, .int .i64 r.1.ea_, .int .i64 r.1.eb_, .int .i64 r.1.hyper_], .int .i64 r.2] ∧ Ext w w2) := by
  refine calls_of Tryd.func53 rfl Tryd.ntmps53 ?_
  have he0 : Ext w w := Ext.refl w
  unfold F_impl_edgesOf at hF
  refine WC.seq ?_
  refine WC.region ?_
  refine TL.eff rfl rfl (eff_alloc rfl zn_86) ?_
  rintro _ w4 ⟨b3, rfl, hn5⟩
  obtain ⟨hn5e, hn5s, hn5x, hb6⟩ := hn5
  have hb6 : Box w4 b3 [.int .i64 0, .int .i64 0, .int .i64 0, .int .i64 0, .int .i64 0, .int .i64 0, .int .i64 0, .int .i64 0, .int .i64 0] 86 := hb6
  have he8 : Ext w w4 := Ext.trans he0 hn5x
  have hz9 := (hn5x).size
  have hlo7 : w.heap.size ≤ b3 := by rw [hn5e]; exact (he0).size
  refine TL.yld rfl rfl (yld_assign rfl rfl) ?_
  refine TL.done ?_
  refine NX.seq ?_
  refine WC.seq ?_
  refine WC.region ?_
  refine TL.yld rfl rfl (yld_move rfl rfl) ?_
  refine TL.yld rfl rfl (yld_move rfl rfl) ?_
  refine TL.yld rfl rfl (yld_move rfl rfl) ?_
  refine TL.eff rfl rfl (eff_buildSlice (c := (cInt .i64)) (xs := [a1_a, a3_b]) (S := (Iv 0 0)) (uss := [(0, [.int .i64 a1_a]), (1, [.int .i64 a3_b])]) (out := [.int .i64 a1_a, .int .i64 a3_b]) rfl Tryd.underlying42 in_2 rfl rfl (fillL_all [[.int .i64 a1_a], [.int .i64 a3_b]] rfl rfl rfl) rfl rfl rfl rfl (one_rep (uss := [[.int .i64 a1_a], [.int .i64 a3_b]]) (show reps _ _ _ _ _ from ⟨rfl, rfl, trivial⟩) rfl) (fun k h => by have := h.2; omega) rfl) ?_
  rintro v10 w11 ⟨g12, hv13, hg14, hz15, hx16, hs17⟩
  have he18 : Ext w w11 := Ext.trans he8 hx16
  have hb6 := Box.ext hb6 hx16
  have hz19 := (hx16).size
  have hlo20 : w.heap.size ≤ g12 := by rw [hg14]; exact (he8).size
  have hbd21 := bd_of hv13
  clear hv13
  obtain ⟨r23, hr24, hF⟩ := bsome hF
  refine TL.eff rfl rfl (eff_call rfl gf_60 rfl (W_impl_clockCode hr24 ((slRep.old ha2 he18 (Nat.le_refl _)).wide (Nat.le_refl _) (he18).size) (ownR.slf hs17 (Nat.zero_le _) (Nat.le_refl _)))) ?_
  rintro _ w25 ⟨rfl, hx26⟩
  have he27 : Ext w w25 := Ext.trans he18 hx26
  have hb6 := Box.ext hb6 hx26
  have hs17 := ownR.ext hs17 hx26
  have hz28 := (hx26).size
  refine TL.yld rfl rfl (yld_assign rfl rfl) ?_
  refine TL.done ?_
  refine NX.seq ?_
  refine WC.seq ?_
  refine WC.block ?_
  refine WC.seq ?_
  refine WC.region ?_
  refine TL.yld rfl rfl (yld_move rfl rfl) ?_
  refine TL.yld rfl rfl (yld_neq rfl rfl rfl) ?_
  refine TL.yld rfl rfl (yld_assign rfl rfl) ?_
  refine TL.done ?_
  refine NX.seq ?_
  refine WC.cond rfl ?_ ?_
  · intro hc29
    replace hF := bif_t hc29 hF
    refine WC.seq ?_
    refine WC.region ?_
    refine TL.yld rfl rfl (yld_build (uss := []) (out := [.int .i64 0, .int .i64 0, .int .i64 0, .int .i64 0, .int .i64 0, .int .i64 0, .int .i64 0, .int .i64 0, .int .i64 0]) rfl rfl zn_86 pl_86 rfl rfl) ?_
    refine TL.yld rfl rfl (yld_move rfl rfl) ?_
    refine TL.eff rfl rfl (eff_store rfl rfl rfl hb6 cn_86 rfl rfl) ?_
    rintro _ w30 ⟨hu31, hb32⟩
    have he33 : Ext w w30 := Below.trans he27 (Upd.below hu31 (by omega))
    have hs17 := ownR.upd hs17 hu31 (fun g hg => by have := hbd21 g hg; omega)
    have hz34 := (hu31).size
    have hb6 : Box w30 b3 [.int .i64 0, .int .i64 0, .int .i64 0, .int .i64 0, .int .i64 0, .int .i64 0, .int .i64 0, .int .i64 0, .int .i64 0] 86 := hb32
    refine TL.yld rfl rfl (yld_assign rfl rfl) ?_
    refine TL.done ?_
    refine NX.seq ?_
    refine WC.ret' ?_
    refine NX.blk_r ?_
    refine NX.then_r ?_
    obtain rfl := Option.some.inj hF
    exact NX.end (rs := [.cell 10 86, .tmp 11]) (vs := [.agg #[.int .i64 0, .int .i64 0, .int .i64 0, .int .i64 0, .int .i64 0, .int .i64 0, .int .i64 0, .int .i64 0, .int .i64 0], .int .i64 r23]) rfl ⟨⟨b3, rfl, box_load ag_86 cn_86 hb6⟩, rfl, trivial⟩ ⟨_, rfl, rfl, he33⟩
  · intro hc35
    replace hF := bif_f hc35 hF
    refine WC.seq ?_
    refine WC.region ?_
    refine TL.yld rfl rfl (yld_move rfl rfl) ?_
    obtain ⟨r36, hr37, hF⟩ := bsome hF
    refine TL.eff rfl rfl (eff_call rfl gf_62 rfl (W_impl_isTransition hr37)) ?_
    rintro _ w38 ⟨rfl, hx39⟩
    have he40 : Ext w w38 := Ext.trans he27 hx39
    have hb6 := Box.ext hb6 hx39
    have hs17 := ownR.ext hs17 hx39
    have hz41 := (hx39).size
    refine TL.yld rfl rfl (yld_not rfl rfl) ?_
    refine TL.yld rfl rfl (yld_move rfl rfl) ?_
    obtain ⟨c42, hb43, hF⟩ := bsome hF
    refine TL.cut 4 [(0, v1), (1, .int .i64 a1_a), (2, .int .i64 a2_ea), (3, .int .i64 a3_b), (4, .int .i64 a4_eb), (10, .pointer (some ⟨b3, 0, none⟩)), (32, .bool c42)] (fun w' => Ext w38 w') ?_ ?_
    · rcases Bool.eq_false_or_eq_true (!r36) with hg44 | hg44
      ·
        rw [hg44] at hb43; simp only [cond_true, cond_false] at hb43
        refine TL.gnu (j := 3) (t := 28) rfl rfl rfl hg44 rfl ?_
        refine TL.gnu (j := 3) (t := 28) rfl rfl rfl hg44 rfl ?_
        refine TL.gnu (j := 3) (t := 28) rfl rfl rfl hg44 rfl ?_
        obtain rfl := Option.some.inj hb43
        refine TL.yld rfl rfl (yld_pick_t rfl rfl hg44 rfl) ?_
        exact TL.nil fun a h => ⟨h.weaken ⟨rfl, rfl, rfl, rfl, rfl, rfl, rfl, trivial⟩, Ext.refl _⟩
      ·
        rw [hg44] at hb43; simp only [cond_true, cond_false] at hb43
        replace hF := hb43
        refine TL.gy (j := 3) (t := 28) rfl rfl rfl hg44 rfl (yld_move rfl rfl) ?_
        obtain ⟨r45, hr46, hF⟩ := bsome hF
        refine TL.ge (j := 3) (t := 28) rfl rfl rfl hg44 rfl (eff_call rfl gf_62 rfl (W_impl_isTransition hr46)) ?_
        rintro _ w47 ⟨rfl, hx48⟩
        have he49 : Ext w w47 := Ext.trans he40 hx48
        have hb6 := Box.ext hb6 hx48
        have hs17 := ownR.ext hs17 hx48
        have hz50 := (hx48).size
        refine TL.gy (j := 3) (t := 28) rfl rfl rfl hg44 rfl (yld_not rfl rfl) ?_
        obtain rfl := Option.some.inj hF
        refine TL.yld rfl rfl (yld_pick_f rfl rfl hg44 rfl) ?_
        exact TL.nil fun a h => ⟨h.weaken ⟨rfl, rfl, rfl, rfl, rfl, rfl, rfl, trivial⟩, hx48⟩
    intro w51 hx52
    have he53 : Ext w w51 := Ext.trans he40 hx52
    have hb6 := Box.ext hb6 hx52
    have hs17 := ownR.ext hs17 hx52
    have hz54 := (hx52).size
    refine TL.yld rfl rfl (yld_assign rfl rfl) ?_
    refine TL.done ?_
    refine NX.seq ?_
    refine WC.cond rfl ?_ ?_
    · intro hc55
      replace hF := bif_t hc55 hF
      refine WC.seq ?_
      refine WC.region ?_
      refine TL.yld rfl rfl (yld_build (uss := []) (out := [.int .i64 0, .int .i64 0, .int .i64 0, .int .i64 0, .int .i64 0, .int .i64 0, .int .i64 0, .int .i64 0, .int .i64 0]) rfl rfl zn_86 pl_86 rfl rfl) ?_
      refine TL.eff rfl rfl (eff_store rfl rfl rfl hb6 cn_86 rfl rfl) ?_
      rintro _ w56 ⟨hu57, hb58⟩
      have he59 : Ext w w56 := Below.trans he53 (Upd.below hu57 (by omega))
      have hs17 := ownR.upd hs17 hu57 (fun g hg => by have := hbd21 g hg; omega)
      have hz60 := (hu57).size
      have hb6 : Box w56 b3 [.int .i64 0, .int .i64 0, .int .i64 0, .int .i64 0, .int .i64 0, .int .i64 0, .int .i64 0, .int .i64 0, .int .i64 0] 86 := hb58
      refine TL.yld rfl rfl (yld_assign rfl rfl) ?_
      refine TL.done ?_
      refine NX.seq ?_
      refine WC.ret' ?_
      refine NX.blk_r ?_
      refine NX.then_r ?_
      obtain rfl := Option.some.inj hF
      exact NX.end (rs := [.cell 10 86, .tmp 11]) (vs := [.agg #[.int .i64 0, .int .i64 0, .int .i64 0, .int .i64 0, .int .i64 0, .int .i64 0, .int .i64 0, .int .i64 0, .int .i64 0], .int .i64 2]) rfl ⟨⟨b3, rfl, box_load ag_86 cn_86 hb6⟩, rfl, trivial⟩ ⟨_, rfl, rfl, he59⟩
    · intro hc61
      replace hF := bif_f hc61 hF
      refine WC.seq ?_
      refine WC.region ?_
      refine TL.yld rfl rfl (yld_move rfl rfl) ?_
      refine TL.yld rfl rfl (yld_move rfl rfl) ?_
      obtain ⟨r62, hr63, hF⟩ := bsome hF
      refine TL.eff rfl rfl (eff_call rfl gf_97 rfl (W_impl_rootOf hr63 ((slRep.old ha2 he53 (Nat.le_refl _)).wide (Nat.le_refl _) (he53).size))) ?_
      rintro _ w64 ⟨rfl, hx65⟩
      have he66 : Ext w w64 := Ext.trans he53 hx65
      have hb6 := Box.ext hb6 hx65
      have hs17 := ownR.ext hs17 hx65
      have hz67 := (hx65).size
      refine TL.yld rfl rfl (yld_move rfl rfl) ?_
      refine TL.yld rfl rfl (yld_move rfl rfl) ?_
      obtain ⟨r68, hr69, hF⟩ := bsome hF
      refine TL.eff rfl rfl (eff_call rfl gf_97 rfl (W_impl_rootOf hr69 ((slRep.old ha2 he66 (Nat.le_refl _)).wide (Nat.le_refl _) (he66).size))) ?_
      rintro _ w70 ⟨rfl, hx71⟩
      have he72 : Ext w w70 := Ext.trans he66 hx71
      have hb6 := Box.ext hb6 hx71
      have hs17 := ownR.ext hs17 hx71
      have hz73 := (hx71).size
      refine TL.yld rfl rfl (yld_neq rfl rfl rfl) ?_
      refine TL.yld rfl rfl (yld_assign rfl rfl) ?_
      refine TL.done ?_
      refine NX.seq ?_
      refine WC.cond rfl ?_ ?_
      · intro hc74
        replace hF := bif_t hc74 hF
        refine WC.seq ?_
        refine WC.region ?_
        refine TL.yld rfl rfl (yld_build (uss := []) (out := [.int .i64 0, .int .i64 0, .int .i64 0, .int .i64 0, .int .i64 0, .int .i64 0, .int .i64 0, .int .i64 0, .int .i64 0]) rfl rfl zn_86 pl_86 rfl rfl) ?_
        refine TL.eff rfl rfl (eff_store rfl rfl rfl hb6 cn_86 rfl rfl) ?_
        rintro _ w75 ⟨hu76, hb77⟩
        have he78 : Ext w w75 := Below.trans he72 (Upd.below hu76 (by omega))
        have hs17 := ownR.upd hs17 hu76 (fun g hg => by have := hbd21 g hg; omega)
        have hz79 := (hu76).size
        have hb6 : Box w75 b3 [.int .i64 0, .int .i64 0, .int .i64 0, .int .i64 0, .int .i64 0, .int .i64 0, .int .i64 0, .int .i64 0, .int .i64 0] 86 := hb77
        refine TL.yld rfl rfl (yld_assign rfl rfl) ?_
        refine TL.done ?_
        refine NX.seq ?_
        refine WC.ret' ?_
        refine NX.blk_r ?_
        refine NX.then_r ?_
        obtain rfl := Option.some.inj hF
        exact NX.end (rs := [.cell 10 86, .tmp 11]) (vs := [.agg #[.int .i64 0, .int .i64 0, .int .i64 0, .int .i64 0, .int .i64 0, .int .i64 0, .int .i64 0, .int .i64 0, .int .i64 0], .int .i64 5]) rfl ⟨⟨b3, rfl, box_load ag_86 cn_86 hb6⟩, rfl, trivial⟩ ⟨_, rfl, rfl, he78⟩
      · intro hc80
        replace hF := bif_f hc80 hF
        refine WC.skip' ?_
        refine NX.blk_n ?_
        refine NX.seq ?_
        refine WC.seq ?_
        refine WC.region ?_
        refine TL.yld rfl rfl (yld_move rfl rfl) ?_
        refine TL.yld rfl rfl (yld_move rfl rfl) ?_
        obtain ⟨r81, hr82, hF⟩ := bsome hF
        refine TL.eff rfl rfl (eff_call rfl gf_64 rfl (W_impl_waveOf hr82 ((slRep.old ha2 he72 (Nat.le_refl _)).wide (Nat.le_refl _) (he72).size))) ?_
        rintro _ w83 ⟨rfl, hx84⟩
        have he85 : Ext w w83 := Ext.trans he72 hx84
        have hb6 := Box.ext hb6 hx84
        have hs17 := ownR.ext hs17 hx84
        have hz86 := (hx84).size
        refine TL.yld rfl rfl (yld_move rfl rfl) ?_
        refine TL.yld rfl rfl (yld_move rfl rfl) ?_
        obtain ⟨r87, hr88, hF⟩ := bsome hF
        refine TL.eff rfl rfl (eff_call rfl gf_64 rfl (W_impl_waveOf hr88 ((slRep.old ha2 he85 (Nat.le_refl _)).wide (Nat.le_refl _) (he85).size))) ?_
        rintro _ w89 ⟨rfl, hx90⟩
        have he91 : Ext w w89 := Ext.trans he85 hx90
        have hb6 := Box.ext hb6 hx90
        have hs17 := ownR.ext hs17 hx90
        have hz92 := (hx90).size
        refine TL.yld rfl rfl (yld_move rfl rfl) ?_
        refine TL.yld rfl rfl (yld_move rfl rfl) ?_
        refine TL.yld rfl rfl (yld_move rfl rfl) ?_
        refine TL.yld rfl rfl (yld_move rfl rfl) ?_
        refine TL.yld rfl rfl (yld_move rfl rfl) ?_
        obtain ⟨r93, hr94, hF⟩ := bsome hF
        refine TL.eff rfl rfl (eff_call rfl gf_61 rfl (W_impl_hyperPeriod hr94 ((slRep.old ha2 he91 (Nat.le_refl _)).wide (Nat.le_refl _) (he91).size))) ?_
        rintro _ w95 ⟨rfl, hx96⟩
        have he97 : Ext w w95 := Ext.trans he91 hx96
        have hb6 := Box.ext hb6 hx96
        have hs17 := ownR.ext hs17 hx96
        have hz98 := (hx96).size
        refine TL.yld rfl rfl (yld_build (uss := [(0, [.int .i64 r81.period_, .int .i64 r81.edges_.e0, .int .i64 r81.edges_.e1]), (1, [.int .i64 r87.period_, .int .i64 r87.edges_.e0, .int .i64 r87.edges_.e1]), (2, [.int .i64 a2_ea]), (3, [.int .i64 a4_eb]), (4, [.int .i64 r93])]) (out := [.int .i64 r81.period_, .int .i64 r81.edges_.e0, .int .i64 r81.edges_.e1, .int .i64 r87.period_, .int .i64 r87.edges_.e0, .int .i64 r87.edges_.e1, .int .i64 a2_ea, .int .i64 a4_eb, .int .i64 r93]) rfl rfl zn_86 pl_86 rfl rfl) ?_
        refine TL.eff rfl rfl (eff_alloc rfl zn_86) ?_
        rintro _ w100 ⟨b99, rfl, hn101⟩
        obtain ⟨hn101e, hn101s, hn101x, hb102⟩ := hn101
        have hb102 : Box w100 b99 [.int .i64 0, .int .i64 0, .int .i64 0, .int .i64 0, .int .i64 0, .int .i64 0, .int .i64 0, .int .i64 0, .int .i64 0] 86 := hb102
        have he104 : Ext w w100 := Ext.trans he97 hn101x
        have hb6 := Box.ext hb6 hn101x
        have hs17 := ownR.ext hs17 hn101x
        have hz105 := (hn101x).size
        have hlo103 : w.heap.size ≤ b99 := by rw [hn101e]; exact (he97).size
        refine TL.eff rfl rfl (eff_store rfl rfl rfl hb102 cn_86 rfl rfl) ?_
        rintro _ w106 ⟨hu107, hb108⟩
        have he109 : Ext w w106 := Below.trans he104 (Upd.below hu107 (by omega))
        have hb6 := Box.upd hb6 hu107 (by omega)
        have hs17 := ownR.upd hs17 hu107 (fun g hg => by have := hbd21 g hg; omega)
        have hz110 := (hu107).size
        have hb102 : Box w106 b99 [.int .i64 r81.period_, .int .i64 r81.edges_.e0, .int .i64 r81.edges_.e1, .int .i64 r87.period_, .int .i64 r87.edges_.e0, .int .i64 r87.edges_.e1, .int .i64 a2_ea, .int .i64 a4_eb, .int .i64 r93] 86 := hb108
        refine TL.done ?_
        refine NX.seq ?_
        refine WC.seq ?_
        refine WC.seq ?_
        refine WC.region ?_
        refine TL.yld rfl rfl (yld_fieldAddr rfl fo_86_4 rfl) ?_
        refine TL.yld rfl rfl (yld_load1 8 rfl ag_2 rfl (Box.cells hb102) rfl rfl) ?_
        refine TL.yld rfl rfl (yld_gtr rfl rfl rfl) ?_
        refine TL.yld rfl rfl (yld_move rfl rfl) ?_
        obtain ⟨c111, hb112, hF⟩ := bsome hF
        refine TL.cut 8 [(10, .pointer (some ⟨b3, 0, none⟩)), (13, .pointer (some ⟨b99, 0, none⟩)), (67, .bool c111)] (fun w' => Ext w106 w') ?_ ?_
        · rcases Bool.eq_false_or_eq_true (decide (r93 > 100000000)) with hg113 | hg113
          ·
            rw [hg113] at hb112; simp only [cond_true, cond_false] at hb112
            refine TL.gnu (j := 3) (t := 59) rfl rfl rfl hg113 rfl ?_
            refine TL.gnu (j := 3) (t := 59) rfl rfl rfl hg113 rfl ?_
            refine TL.gnu (j := 3) (t := 59) rfl rfl rfl hg113 rfl ?_
            refine TL.gnu (j := 3) (t := 59) rfl rfl rfl hg113 rfl ?_
            refine TL.gnu (j := 3) (t := 59) rfl rfl rfl hg113 rfl ?_
            refine TL.gnu (j := 3) (t := 59) rfl rfl rfl hg113 rfl ?_
            refine TL.gnu (j := 3) (t := 59) rfl rfl rfl hg113 rfl ?_
            obtain rfl := Option.some.inj hb112
            refine TL.yld rfl rfl (yld_pick_t rfl rfl hg113 rfl) ?_
            exact TL.nil fun a h => ⟨h.weaken ⟨rfl, rfl, rfl, trivial⟩, Ext.refl _⟩
          ·
            rw [hg113] at hb112; simp only [cond_true, cond_false] at hb112
            replace hF := hb112
            refine TL.gy (j := 3) (t := 59) rfl rfl rfl hg113 rfl (yld_fieldAddr rfl fo_86_4 rfl) ?_
            refine TL.gy (j := 3) (t := 59) rfl rfl rfl hg113 rfl (yld_load1 8 rfl ag_2 rfl (Box.cells hb102) rfl rfl) ?_
            refine TL.gy (j := 3) (t := 59) rfl rfl rfl hg113 rfl (yld_fieldAddr rfl fo_86_0 rfl) ?_
            refine TL.gy (j := 3) (t := 59) rfl rfl rfl hg113 rfl (yld_fieldAddr rfl fo_84_0 rfl) ?_
            refine TL.gy (j := 3) (t := 59) rfl rfl rfl hg113 rfl (yld_load1 0 rfl ag_2 rfl (Box.cells hb102) rfl rfl) ?_
            obtain ⟨hn114, hF⟩ := nzero hF
            refine TL.gy (j := 3) (t := 59) rfl rfl rfl hg113 rfl (yld_quo rfl rfl rfl hn114) ?_
            refine TL.gy (j := 3) (t := 59) rfl rfl rfl hg113 rfl (yld_gtr rfl rfl rfl) ?_
            obtain rfl := Option.some.inj hF
            refine TL.yld rfl rfl (yld_pick_f rfl rfl hg113 rfl) ?_
            exact TL.nil fun a h => ⟨h.weaken ⟨rfl, rfl, rfl, trivial⟩, Ext.refl _⟩
        intro w115 hx116
        have he117 : Ext w w115 := Ext.trans he109 hx116
        have hb6 := Box.ext hb6 hx116
        have hb102 := Box.ext hb102 hx116
        have hs17 := ownR.ext hs17 hx116
        have hz118 := (hx116).size
        refine TL.done ?_
        refine NX.seq ?_
        refine WC.cond rfl ?_ ?_
        · intro hc119
          replace hF := bif_t hc119 hF
          refine WC.seq ?_
          refine WC.region ?_
          refine TL.yld rfl rfl (yld_build (uss := []) (out := [.int .i64 0, .int .i64 0, .int .i64 0, .int .i64 0, .int .i64 0, .int .i64 0, .int .i64 0, .int .i64 0, .int .i64 0]) rfl rfl zn_86 pl_86 rfl rfl) ?_
          refine TL.eff rfl rfl (eff_store rfl rfl rfl hb6 cn_86 rfl rfl) ?_
          rintro _ w120 ⟨hu121, hb122⟩
          have he123 : Ext w w120 := Below.trans he117 (Upd.below hu121 (by omega))
          have hb102 := Box.upd hb102 hu121 (by omega)
          have hs17 := ownR.upd hs17 hu121 (fun g hg => by have := hbd21 g hg; omega)
          have hz124 := (hu121).size
          have hb6 : Box w120 b3 [.int .i64 0, .int .i64 0, .int .i64 0, .int .i64 0, .int .i64 0, .int .i64 0, .int .i64 0, .int .i64 0, .int .i64 0] 86 := hb122
          refine TL.yld rfl rfl (yld_assign rfl rfl) ?_
          refine TL.done ?_
          refine NX.seq ?_
          refine WC.ret' ?_
          refine NX.then_r ?_
          obtain rfl := Option.some.inj hF
          exact NX.end (rs := [.cell 10 86, .tmp 11]) (vs := [.agg #[.int .i64 0, .int .i64 0, .int .i64 0, .int .i64 0, .int .i64 0, .int .i64 0, .int .i64 0, .int .i64 0, .int .i64 0], .int .i64 3]) rfl ⟨⟨b3, rfl, box_load ag_86 cn_86 hb6⟩, rfl, trivial⟩ ⟨_, rfl, rfl, he123⟩
        · intro hc125
          replace hF := bif_f hc125 hF
          refine WC.skip' ?_
          refine NX.seq ?_
          refine WC.seq ?_
          refine WC.region ?_
          refine TL.yld rfl rfl (yld_loadN (us := [.int .i64 r81.period_, .int .i64 r81.edges_.e0, .int .i64 r81.edges_.e1, .int .i64 r87.period_, .int .i64 r87.edges_.e0, .int .i64 r87.edges_.e1, .int .i64 a2_ea, .int .i64 a4_eb, .int .i64 r93]) rfl ag_86 rfl (Box.cells hb102) cn_86) ?_
          refine TL.eff rfl rfl (eff_store rfl rfl rfl hb6 cn_86 rfl rfl) ?_
          rintro _ w126 ⟨hu127, hb128⟩
          have he129 : Ext w w126 := Below.trans he117 (Upd.below hu127 (by omega))
          have hb102 := Box.upd hb102 hu127 (by omega)
          have hs17 := ownR.upd hs17 hu127 (fun g hg => by have := hbd21 g hg; omega)
          have hz130 := (hu127).size
          have hb6 : Box w126 b3 [.int .i64 r81.period_, .int .i64 r81.edges_.e0, .int .i64 r81.edges_.e1, .int .i64 r87.period_, .int .i64 r87.edges_.e0, .int .i64 r87.edges_.e1, .int .i64 a2_ea, .int .i64 a4_eb, .int .i64 r93] 86 := hb128
          refine TL.yld rfl rfl (yld_assign rfl rfl) ?_
          refine TL.done ?_
          refine NX.seq ?_
          refine WC.ret' ?_
          obtain rfl := Option.some.inj hF
          exact NX.end (rs := [.cell 10 86, .tmp 11]) (vs := [.agg #[.int .i64 r81.period_, .int .i64 r81.edges_.e0, .int .i64 r81.edges_.e1, .int .i64 r87.period_, .int .i64 r87.edges_.e0, .int .i64 r87.edges_.e1, .int .i64 a2_ea, .int .i64 a4_eb, .int .i64 r93], .int .i64 0]) rfl ⟨⟨b3, rfl, box_load ag_86 cn_86 hb6⟩, rfl, trivial⟩ ⟨_, rfl, rfl, he129⟩

-- loop.example/g00861/impl.modulo
def F_impl_modulo (n : Nat) (a0_a : Int) (a1_b : Int) : Option Int := (bif (a1_b == 0) then none else (bif (a1_b == 0) then none else (some (Int.tmod (IntKind.wrap IntKind.i64 ((Int.tmod a0_a a1_b) + a1_b)) a1_b))))
set_option maxHeartbeats 40000000 in
theorem W_impl_modulo {n : Nat} {a0_a : Int} {a1_b : Int} {r : Int} {w : World} (hF : F_impl_modulo n a0_a a1_b = some r) :
    Calls Tryd.prog 104 [.int .i64 a0_a, .int .i64 a1_b].toArray w (Ret fun u w2 => u = .int .i64 r ∧ Ext w w2) := by
  refine calls_of Tryd.func104 rfl Tryd.ntmps104 ?_
  have he0 : Ext w w := Ext.refl w
  unfold F_impl_modulo at hF
  refine WC.seq ?_
  refine WC.region ?_
  refine TL.yld rfl rfl (yld_assign rfl rfl) ?_
  refine TL.done ?_
  refine NX.seq ?_
  refine WC.seq ?_
  refine WC.region ?_
  refine TL.yld rfl rfl (yld_move rfl rfl) ?_
  refine TL.yld rfl rfl (yld_move rfl rfl) ?_
  obtain ⟨hn1, hF⟩ := nzero hF
  refine TL.yld rfl rfl (yld_rem rfl rfl rfl hn1) ?_
  refine TL.yld rfl rfl (yld_move rfl rfl) ?_
  refine TL.yld rfl rfl (yld_add rfl rfl rfl) ?_
  refine TL.yld rfl rfl (yld_move rfl rfl) ?_
  obtain ⟨hn2, hF⟩ := nzero hF
  refine TL.yld rfl rfl (yld_rem rfl rfl rfl hn2) ?_
  refine TL.yld rfl rfl (yld_assign rfl rfl) ?_
  refine TL.done ?_
  refine NX.seq ?_
  refine WC.ret' ?_
  obtain rfl := Option.some.inj hF
  exact NX.end (rs := [.tmp 4]) (vs := [.int .i64 (Int.tmod (IntKind.wrap IntKind.i64 ((Int.tmod a0_a a1_b) + a1_b)) a1_b)]) rfl ⟨rfl, trivial⟩ ⟨_, rfl, rfl, he0⟩

-- (loop.example/g00861/impl.wave).next
def F_impl_wave_next (n : Nat) (a0_w : S_wave) (a1_edge : Int) (a2_time : Int) : Option Int := (Option.bind (getI ([a0_w.edges_.e0, a0_w.edges_.e1] : List Int) a1_edge) fun x8 => (Option.bind (F_impl_modulo n (IntKind.wrap IntKind.i64 (x8 - a2_time)) a0_w.period_) fun r10 => (some (IntKind.wrap IntKind.i64 (a2_time + r10)))))
set_option maxHeartbeats 40000000 in
theorem W_impl_wave_next {n : Nat} {a0_w : S_wave} {a1_edge : Int} {a2_time : Int} {r : Int} {w : World} (hF : F_impl_wave_next n a0_w a1_edge a2_time = some r) :
    Calls Tryd.prog 65 [.agg #[.int .i64 a0_w.period_, .int .i64 a0_w.edges_.e0, .int .i64 a0_w.edges_.e1], .int .i64 a1_edge, .int .i64 a2_time].toArray w (Ret fun u w2 => u = .int .i64 r ∧ Ext w w2) := by
  refine calls_of Tryd.func65 rfl Tryd.ntmps65 ?_
  have he0 : Ext w w := Ext.refl w
  unfold F_impl_wave_next at hF
  refine WC.seq ?_
  refine WC.region ?_
  refine TL.eff rfl rfl (eff_box rfl rfl) ?_
  rintro _ w2 ⟨b1, rfl, hn3⟩
  obtain ⟨hn3e, hn3s, hn3x, hb4⟩ := hn3
  have hb4 : Box w2 b1 [.int .i64 a0_w.period_, .int .i64 a0_w.edges_.e0, .int .i64 a0_w.edges_.e1] 84 := hb4
  have he6 : Ext w w2 := Ext.trans he0 hn3x
  have hz7 := (hn3x).size
  have hlo5 : w.heap.size ≤ b1 := by rw [hn3e]; exact (he0).size
  refine TL.yld rfl rfl (yld_assign rfl rfl) ?_
  refine TL.done ?_
  refine NX.seq ?_
  refine WC.seq ?_
  refine WC.quiet Tryd.hm (by kernel_rfl) ?_
  refine QL.yld rfl rfl (Yld.qui (yld_move rfl rfl)) ?_
  refine QL.yld rfl rfl (Yld.qui (yld_move rfl rfl)) ?_
  refine QL.yld rfl rfl (Yld.qui (yld_fieldAddr rfl fo_84_1 rfl)) ?_
  obtain ⟨x8, hy9, hF⟩ := bsome hF
  refine QL.yld rfl rfl (Yld.qui (yld_indexArr rfl Tryd.underlying82 cn_2 rfl rfl (getI_rng hy9))) ?_
  refine QL.yld rfl rfl (Yld.qui (yld_loadI 1 [a0_w.edges_.e0, a0_w.edges_.e1] rfl ag_2 rfl (Box.cells hb4) (by omega) rfl hy9)) ?_
  refine QL.yld rfl rfl (Yld.qui (yld_move rfl rfl)) ?_
  refine QL.yld rfl rfl (Yld.qui (yld_sub rfl rfl rfl)) ?_
  refine QL.yld rfl rfl (Yld.qui (yld_fieldAddr rfl fo_84_0 rfl)) ?_
  refine QL.yld rfl rfl (Yld.qui (yld_load1 0 rfl ag_2 rfl (Box.cells hb4) rfl rfl)) ?_
  obtain ⟨r10, hr11, hF⟩ := bsome hF
  refine QL.yld rfl rfl (qui_call rfl gf_104 rfl fun w' hw' => W_impl_modulo hr11) ?_
  refine QL.yld rfl rfl (Yld.qui (yld_add rfl rfl rfl)) ?_
  refine QL.yld rfl rfl (Yld.qui (yld_assign rfl rfl)) ?_
  refine QL.done fun w12 hx13 => ?_
  have he14 : Ext w w12 := Ext.trans he6 hx13
  have hb4 := Box.ext hb4 hx13
  have hz15 := (hx13).size
  refine NX.seq ?_
  refine WC.ret' ?_
  obtain rfl := Option.some.inj hF
  exact NX.end (rs := [.tmp 6]) (vs := [.int .i64 (IntKind.wrap IntKind.i64 (a2_time + r10))]) rfl ⟨rfl, trivial⟩ ⟨_, rfl, rfl, he14⟩

-- (loop.example/g00861/impl.edges).pairs
def F_impl_edges_pairs_L1 (n : Nat) (a0_x : S_edges) (k0 : (List (List Int)) → Int → Option (List (List Int))) : Nat → (List (List Int)) → Int → Option (List (List Int))
  | 0 => fun _ _ => none
  | m + 1 => fun l15 i19 => (bif decide (i19 < a0_x.hyper_) then (Option.bind (F_impl_wave_next n a0_x.to_ a0_x.eb_ (IntKind.wrap IntKind.i64 (i19 + 1))) fun r23 => (Option.bind (appN l15 ([[i19, r23]]) 24) fun z55 => (F_impl_edges_pairs_L1 n a0_x k0 m z55 (IntKind.wrap IntKind.i64 (i19 + a0_x.from_.period_))))) else (k0 l15 i19))
theorem F_impl_edges_pairs_L1_z (n : Nat) (a0_x : S_edges) (k0 : (List (List Int)) → Int → Option (List (List Int))) (l15 : List (List Int)) (i19 : Int) : F_impl_edges_pairs_L1 n a0_x k0 0 l15 i19 = none := rfl
theorem F_impl_edges_pairs_L1_s (m : Nat) (n : Nat) (a0_x : S_edges) (k0 : (List (List Int)) → Int → Option (List (List Int))) (l15 : List (List Int)) (i19 : Int) : F_impl_edges_pairs_L1 n a0_x k0 (m + 1) l15 i19 = (bif decide (i19 < a0_x.hyper_) then (Option.bind (F_impl_wave_next n a0_x.to_ a0_x.eb_ (IntKind.wrap IntKind.i64 (i19 + 1))) fun r23 => (Option.bind (appN l15 ([[i19, r23]]) 24) fun z55 => (F_impl_edges_pairs_L1 n a0_x k0 m z55 (IntKind.wrap IntKind.i64 (i19 + a0_x.from_.period_))))) else (k0 l15 i19)) := rfl

def F_impl_edges_pairs (n : Nat) (a0_x : S_edges) : Option (List (List Int)) := (Option.bind (getI ([a0_x.from_.edges_.e0, a0_x.from_.edges_.e1] : List Int) a0_x.ea_) fun x8 => (F_impl_edges_pairs_L1 n a0_x (fun l15 i19 => (some l15)) n (([] : List (List Int))) x8))
set_option maxHeartbeats 40000000 in
theorem W_impl_edges_pairs {n : Nat} {a0_x : S_edges} {r : List (List Int)} {w : World} (hF : F_impl_edges_pairs n a0_x = some r) :
    Calls Tryd.prog 59 [.agg #[.int .i64 a0_x.from_.period_, .int .i64 a0_x.from_.edges_.e0, .int .i64 a0_x.from_.edges_.e1, .int .i64 a0_x.to_.period_, .int .i64 a0_x.to_.edges_.e0, .int .i64 a0_x.to_.edges_.e1, .int .i64 a0_x.ea_, .int .i64 a0_x.eb_, .int .i64 a0_x.hyper_]].toArray w (Ret fun u w2 => ∃ v0_0, u = v0_0 ∧ ownR (cSl (cInt .i64)) w2 w.heap.size (SX w.heap.size w2.heap.size v0_0) 42 r v0_0 ∧ Ext w w2) := by
  refine calls_of Tryd.func59 rfl Tryd.ntmps59 ?_
  have he0 : Ext w w := Ext.refl w
  unfold F_impl_edges_pairs at hF
  refine WC.seq ?_
  refine WC.region ?_
  refine TL.eff rfl rfl (eff_box rfl rfl) ?_
  rintro _ w2 ⟨b1, rfl, hn3⟩
  obtain ⟨hn3e, hn3s, hn3x, hb4⟩ := hn3
  have hb4 : Box w2 b1 [.int .i64 a0_x.from_.period_, .int .i64 a0_x.from_.edges_.e0, .int .i64 a0_x.from_.edges_.e1, .int .i64 a0_x.to_.period_, .int .i64 a0_x.to_.edges_.e0, .int .i64 a0_x.to_.edges_.e1, .int .i64 a0_x.ea_, .int .i64 a0_x.eb_, .int .i64 a0_x.hyper_] 86 := hb4
  have he6 : Ext w w2 := Ext.trans he0 hn3x
  have hz7 := (hn3x).size
  have hlo5 : w.heap.size ≤ b1 := by rw [hn3e]; exact (he0).size
  refine TL.yld rfl rfl (yld_assign rfl rfl) ?_
  refine TL.done ?_
  refine NX.seq ?_
  refine WC.seq ?_
  refine WC.region ?_
  refine TL.yld rfl rfl (yld_assign rfl rfl) ?_
  refine TL.done ?_
  refine NX.seq ?_
  refine WC.seq ?_
  refine WC.seq ?_
  refine WC.region ?_
  refine TL.yld rfl rfl (yld_fieldAddr rfl fo_86_2 rfl) ?_
  refine TL.yld rfl rfl (yld_load1 6 rfl ag_2 rfl (Box.cells hb4) rfl rfl) ?_
  refine TL.yld rfl rfl (yld_fieldAddr rfl fo_86_0 rfl) ?_
  refine TL.yld rfl rfl (yld_fieldAddr rfl fo_84_1 rfl) ?_
  obtain ⟨x8, hy9, hF⟩ := bsome hF
  refine TL.yld rfl rfl (yld_indexArr rfl Tryd.underlying82 cn_2 rfl rfl (getI_rng hy9)) ?_
  refine TL.yld rfl rfl (yld_loadI 1 [a0_x.from_.edges_.e0, a0_x.from_.edges_.e1] rfl ag_2 rfl (Box.cells hb4) (by omega) rfl hy9) ?_
  refine TL.yld rfl rfl (yld_assign rfl rfl) ?_
  refine TL.done ?_
  refine NX.seq ?_
  refine WC.block ?_
  have hs12 : ownR (cSl (cInt .i64)) w2 (w2.heap.size) (SX (w2.heap.size) (w2.heap.size) (.slice none 0 0)) 42 [] (.slice none 0 0) := ownR.nil _ _ _ _ _
  have hbd13 : ∀ q, (Value.slice none 0 0).ownBlock = some q → w2.heap.size ≤ q ∧ q < w2.heap.size := bd_nil
  refine WC.loop (fun m22 a wl => ∃ (l15 : List (List Int)) (v16 : Value) (i19 : Int), Kn 33 [(1, .pointer (some ⟨b1, 0, none⟩)), (3, v16), (4, .int .i64 i19)] a ∧ Ext w wl ∧ w2.heap.size ≤ wl.heap.size ∧ Box wl b1 [.int .i64 a0_x.from_.period_, .int .i64 a0_x.from_.edges_.e0, .int .i64 a0_x.from_.edges_.e1, .int .i64 a0_x.to_.period_, .int .i64 a0_x.to_.edges_.e0, .int .i64 a0_x.to_.edges_.e1, .int .i64 a0_x.ea_, .int .i64 a0_x.eb_, .int .i64 a0_x.hyper_] 86 ∧ ownR (cSl (cInt .i64)) wl (w2.heap.size) (SX (w2.heap.size) wl.heap.size v16) 42 l15 v16 ∧ (∀ q, v16.ownBlock = some q → w2.heap.size ≤ q ∧ q < wl.heap.size) ∧ (∀ g, v16.ownBlock = some g → g ≠ b1) ∧ F_impl_edges_pairs_L1 n a0_x (fun l15 i19 => (some l15)) m22 l15 i19 = some r) n ?_ ?_
  · intro a hK; exact ⟨(([] : List (List Int))), ((.slice none 0 0)), x8, hK.weaken ⟨rfl, rfl, rfl, trivial⟩, he6, Nat.le_refl _, hb4, (ownR.wideN hs12 (by omega)), (fun g hg => by have := hbd13 g hg; omega), (fun g hg => by have := hbd13 g hg; omega), hF⟩
  · rintro m22 a w10 ⟨l15, v16, i19, hK, he11, hz23, hb20, hs17, hbd18, hp21, hF⟩
    revert hK; revert a; refine (?_ : WC _ _ _ _ _ _)
    cases m22 with
    | zero => rw [F_impl_edges_pairs_L1_z] at hF; cases hF
    | succ m22 =>
      rw [F_impl_edges_pairs_L1_s] at hF
      refine WC.seq ?_
      refine WC.seq ?_
      refine WC.region ?_
      refine TL.yld rfl rfl (yld_move rfl rfl) ?_
      refine TL.yld rfl rfl (yld_fieldAddr rfl fo_86_4 rfl) ?_
      refine TL.yld rfl rfl (yld_load1 8 rfl ag_2 rfl (Box.cells hb20) rfl rfl) ?_
      refine TL.yld rfl rfl (yld_lss rfl rfl rfl) ?_
      refine TL.done ?_
      refine NX.seq ?_
      refine WC.cond rfl ?_ ?_
      · intro hc24
        replace hF := bif_t hc24 hF
        refine WC.skip' ?_
        refine NX.seq ?_
        refine WC.seq ?_
        refine WC.block ?_
        refine WC.region ?_
        refine TL.yld rfl rfl (yld_move rfl rfl) ?_
        refine TL.yld rfl rfl (yld_move rfl rfl) ?_
        refine TL.yld rfl rfl (yld_fieldAddr rfl fo_86_1 rfl) ?_
        refine TL.yld rfl rfl (yld_loadN (us := [.int .i64 a0_x.to_.period_, .int .i64 a0_x.to_.edges_.e0, .int .i64 a0_x.to_.edges_.e1]) rfl ag_84 rfl (CellsAt.sub (Box.cells hb20) 3 3 : CellsAt _ _ _ [.int .i64 a0_x.to_.period_, .int .i64 a0_x.to_.edges_.e0, .int .i64 a0_x.to_.edges_.e1]) cn_84) ?_
        refine TL.yld rfl rfl (yld_fieldAddr rfl fo_86_3 rfl) ?_
        refine TL.yld rfl rfl (yld_load1 7 rfl ag_2 rfl (Box.cells hb20) rfl rfl) ?_
        refine TL.yld rfl rfl (yld_move rfl rfl) ?_
        refine TL.yld rfl rfl (yld_add rfl rfl rfl) ?_
        obtain ⟨r25, hr26, hF⟩ := bsome hF
        refine TL.eff rfl rfl (eff_call rfl gf_65 rfl (W_impl_wave_next hr26)) ?_
        rintro _ w27 ⟨rfl, hx28⟩
        have he29 : Ext w w27 := Ext.trans he11 hx28
        have hb20 := Box.ext hb20 hx28
        have hs17 := ownR.extN hs17 hx28 (by omega)
        have hz30 := (hx28).size
        refine TL.eff rfl rfl (eff_buildSlice (c := (cInt .i64)) (xs := [i19, r25]) (S := (Iv 0 0)) (uss := [(0, [.int .i64 i19]), (1, [.int .i64 r25])]) (out := [.int .i64 i19, .int .i64 r25]) rfl Tryd.underlying42 in_2 rfl rfl (fillL_all [[.int .i64 i19], [.int .i64 r25]] rfl rfl rfl) rfl rfl rfl rfl (one_rep (uss := [[.int .i64 i19], [.int .i64 r25]]) (show reps _ _ _ _ _ from ⟨rfl, rfl, trivial⟩) rfl) (fun k h => by have := h.2; omega) rfl) ?_
        rintro v31 w32 ⟨g33, hv34, hg35, hz36, hx37, hs38⟩
        have he39 : Ext w w32 := Ext.trans he29 hx37
        have hb20 := Box.ext hb20 hx37
        have hs17 := ownR.extN hs17 hx37 (by omega)
        have hz40 := (hx37).size
        have hlo41 : w.heap.size ≤ g33 := by rw [hg35]; exact (he29).size
        have hbd42 := bd_of hv34
        clear hv34
        refine TL.eff rfl rfl (eff_buildSlice (c := (cSl (cInt .i64))) (xs := [[i19, r25]]) (S := (Iv g33 w32.heap.size)) (uss := [(0, [v31])]) (out := [v31]) rfl Tryd.underlying38 in_42 rfl (pt_cons (slRep.cl (ownR.slf hs38 (Nat.le_refl _) (Nat.le_refl _))) rfl) (fillL_all [[v31]] rfl rfl rfl) rfl rfl rfl rfl (one_rep (uss := [[v31]]) (show reps _ _ _ _ _ from ⟨⟨_, rfl, ((ownR.slf hs38 (Nat.le_refl _) (Nat.le_refl _)).wide (by omega) (by omega))⟩, trivial⟩) rfl) (fun k h => by have := h.2; omega) rfl) ?_
        rintro v44 w45 ⟨g46, hv47, hg48, hz49, hx50, hs51⟩
        have he52 : Ext w w45 := Ext.trans he39 hx50
        have hb20 := Box.ext hb20 hx50
        have hs17 := ownR.extN hs17 hx50 (by omega)
        have hs38 := ownR.ext hs38 hx50
        have hz53 := (hx50).size
        have hlo54 : w.heap.size ≤ g46 := by rw [hg48]; exact (he39).size
        have hs51 := ownR.litN hs51 hv47 (by omega) (by omega)
        have hbd55 := bd_of hv47
        clear hv47
        obtain ⟨z57, ha58, hF⟩ := bsome hF
        refine TL.eff rfl rfl (eff_appendN (c := (cSl (cInt .i64))) rfl Tryd.underlying38 in_42 rfl rfl rfl rfl rfl hs17 (by omega) (by omega) (ownR.slN hs51 (Nat.le_refl _) (Nat.le_refl _) (by omega)) (by omega) (by omega) (fun g hg => by have := hbd18 g hg; omega) ha58) ?_
        rintro v59 w60 ⟨hs61, hgr62⟩
        have he64 : Ext w w60 := Below.trans he52 (Grew.low hgr62 (fun g hg => by have := hbd18 g hg; omega) (he52).size)
        have hp65 : ∀ g, v59.ownBlock = some g → g ≠ b1 := Grew.sepP (p := fun g => g ≠ b1) hgr62 hp21 (fun g hg => by omega)
        have hb20 := Grew.box hgr62 hb20 hp21
        have hp66 : ∀ g q, v16.ownBlock = some g → v31.ownBlock = some q → g ≠ q := (fun g q hg hq => by have := hbd18 g hg; have := hbd42 q hq; omega)
        have hp67 : ∀ g q, v59.ownBlock = some g → v31.ownBlock = some q → g ≠ q := fun g q hg hq => Grew.sepP (p := fun g => ∀ q, v31.ownBlock = some q → g ≠ q) hgr62 (fun g hg q hq => (hp66) g q hg hq) (fun g hg q hq => by have := hbd42 q hq; omega) g hg q hq
        have hs38 := Grew.ownF hgr62 hs38 hp66
        have hp68 : ∀ g q, v16.ownBlock = some g → v44.ownBlock = some q → g ≠ q := (fun g q hg hq => by have := hbd18 g hg; have := hbd55 q hq; omega)
        have hp69 : ∀ g q, v59.ownBlock = some g → v44.ownBlock = some q → g ≠ q := fun g q hg hq => Grew.sepP (p := fun g => ∀ q, v44.ownBlock = some q → g ≠ q) hgr62 (fun g hg q hq => (hp68) g q hg hq) (fun g hg q hq => by have := hbd55 q hq; omega) g hg q hq
        have hs51 := Grew.ownN hgr62 hs51 hp68 (by omega) (fun g hg => by have := hbd18 g hg; omega)
        have hz70 := (hgr62).1.size
        have hbd71 : ∀ g, v59.ownBlock = some g → w2.heap.size ≤ g ∧ g < w60.heap.size := Grew.bd hgr62 hs61 (fun g hg => ⟨by have := hbd18 g hg; omega, (hbd18 g hg).2⟩) (by omega) (by omega)
        refine TL.yld rfl rfl (yld_assign rfl rfl) ?_
        refine TL.done ?_
        refine NX.blk_n ?_
        refine NX.seq ?_
        refine WC.region ?_
        refine TL.yld rfl rfl (yld_move rfl rfl) ?_
        refine TL.yld rfl rfl (yld_fieldAddr rfl fo_86_0 rfl) ?_
        refine TL.yld rfl rfl (yld_fieldAddr rfl fo_84_0 rfl) ?_
        refine TL.yld rfl rfl (yld_load1 0 rfl ag_2 rfl (Box.cells hb20) rfl rfl) ?_
        refine TL.yld rfl rfl (yld_add rfl rfl rfl) ?_
        refine TL.yld rfl rfl (yld_assign rfl rfl) ?_
        refine TL.done ?_
        refine NX.then_n ?_
        intro a hK; exact ⟨m22, Nat.lt_succ_self m22, z57, v59, (IntKind.wrap IntKind.i64 (i19 + a0_x.from_.period_)), hK.weaken ⟨rfl, rfl, rfl, trivial⟩, he64, (by omega), hb20, (ownR.wideN hs61 (by omega)), (fun g hg => by have := hbd71 g hg; omega), hp65, hF⟩
      · intro hc72
        replace hF := bif_f hc72 hF
        refine WC.exit' ?_
        refine NX.then_e ?_
        refine NX.then_e ?_
        refine NX.blk_hit ?_
        refine NX.seq ?_
        refine WC.seq ?_
        refine WC.region ?_
        refine TL.yld rfl rfl (yld_move rfl rfl) ?_
        refine TL.yld rfl rfl (yld_assign rfl rfl) ?_
        refine TL.done ?_
        refine NX.seq ?_
        refine WC.ret' ?_
        obtain rfl := Option.some.inj hF
        exact NX.end (rs := [.tmp 2]) (vs := [v16]) rfl ⟨rfl, trivial⟩ ⟨_, rfl, _, rfl, ownR.baseN (ownR.wideN hs17 (by omega)) (by omega), he11⟩

-- (loop.example/g00861/impl.edges).hold
def F_impl_edges_hold_L1 (a0_x : S_edges) (r8 : List (List Int)) (k0 : Int → Int → Option Int) : Nat → Int → Int → Option Int
  | 0 => fun _ _ => none
  | m + 1 => fun i20 i21 => (bif decide (i21 < (r8.length : Int)) then (Option.bind (getI r8 i21) fun x25 => (Option.bind (getI x25 1) fun x35 => (Option.bind (getI x25 0) fun x43 => (F_impl_edges_hold_L1 a0_x r8 k0 m (max i20 (IntKind.wrap IntKind.i64 ((IntKind.wrap IntKind.i64 (x35 - x43)) - (min a0_x.to_.period_ a0_x.from_.period_)))) (IntKind.wrap IntKind.i64 (i21 + 1)))))) else (k0 i20 i21))
theorem F_impl_edges_hold_L1_z (a0_x : S_edges) (r8 : List (List Int)) (k0 : Int → Int → Option Int) (i20 : Int) (i21 : Int) : F_impl_edges_hold_L1 a0_x r8 k0 0 i20 i21 = none := rfl
theorem F_impl_edges_hold_L1_s (m : Nat) (a0_x : S_edges) (r8 : List (List Int)) (k0 : Int → Int → Option Int) (i20 : Int) (i21 : Int) : F_impl_edges_hold_L1 a0_x r8 k0 (m + 1) i20 i21 = (bif decide (i21 < (r8.length : Int)) then (Option.bind (getI r8 i21) fun x25 => (Option.bind (getI x25 1) fun x35 => (Option.bind (getI x25 0) fun x43 => (F_impl_edges_hold_L1 a0_x r8 k0 m (max i20 (IntKind.wrap IntKind.i64 ((IntKind.wrap IntKind.i64 (x35 - x43)) - (min a0_x.to_.period_ a0_x.from_.period_)))) (IntKind.wrap IntKind.i64 (i21 + 1)))))) else (k0 i20 i21)) := rfl

def F_impl_edges_hold (n : Nat) (a0_x : S_edges) : Option Int := (Option.bind (F_impl_edges_pairs n a0_x) fun r8 => (F_impl_edges_hold_L1 a0_x r8 (fun i20 i21 => (some i20)) n (IntKind.wrap IntKind.i64 ((IntKind.wrap IntKind.i64 (0 - a0_x.to_.period_)) - a0_x.from_.period_)) 0))
set_option maxHeartbeats 40000000 in
theorem W_impl_edges_hold {n : Nat} {a0_x : S_edges} {r : Int} {w : World} (hF : F_impl_edges_hold n a0_x = some r) :
    Calls Tryd.prog 56 [.agg #[.int .i64 a0_x.from_.period_, .int .i64 a0_x.from_.edges_.e0, .int .i64 a0_x.from_.edges_.e1, .int .i64 a0_x.to_.period_, .int .i64 a0_x.to_.edges_.e0, .int .i64 a0_x.to_.edges_.e1, .int .i64 a0_x.ea_, .int .i64 a0_x.eb_, .int .i64 a0_x.hyper_]].toArray w (Ret fun u w2 => u = .int .i64 r ∧ Ext w w2) := by
  refine calls_of Tryd.func56 rfl Tryd.ntmps56 ?_
  have he0 : Ext w w := Ext.refl w
  unfold F_impl_edges_hold at hF
  refine WC.seq ?_
  refine WC.region ?_
  refine TL.eff rfl rfl (eff_box rfl rfl) ?_
  rintro _ w2 ⟨b1, rfl, hn3⟩
  obtain ⟨hn3e, hn3s, hn3x, hb4⟩ := hn3
  have hb4 : Box w2 b1 [.int .i64 a0_x.from_.period_, .int .i64 a0_x.from_.edges_.e0, .int .i64 a0_x.from_.edges_.e1, .int .i64 a0_x.to_.period_, .int .i64 a0_x.to_.edges_.e0, .int .i64 a0_x.to_.edges_.e1, .int .i64 a0_x.ea_, .int .i64 a0_x.eb_, .int .i64 a0_x.hyper_] 86 := hb4
  have he6 : Ext w w2 := Ext.trans he0 hn3x
  have hz7 := (hn3x).size
  have hlo5 : w.heap.size ≤ b1 := by rw [hn3e]; exact (he0).size
  refine TL.yld rfl rfl (yld_assign rfl rfl) ?_
  refine TL.done ?_
  refine NX.seq ?_
  refine WC.seq ?_
  refine WC.region ?_
  refine TL.yld rfl rfl (yld_fieldAddr rfl fo_86_1 rfl) ?_
  refine TL.yld rfl rfl (yld_fieldAddr rfl fo_84_0 rfl) ?_
  refine TL.yld rfl rfl (yld_load1 3 rfl ag_2 rfl (Box.cells hb4) rfl rfl) ?_
  refine TL.yld rfl rfl (yld_neg rfl rfl) ?_
  refine TL.yld rfl rfl (yld_fieldAddr rfl fo_86_0 rfl) ?_
  refine TL.yld rfl rfl (yld_fieldAddr rfl fo_84_0 rfl) ?_
  refine TL.yld rfl rfl (yld_load1 0 rfl ag_2 rfl (Box.cells hb4) rfl rfl) ?_
  refine TL.yld rfl rfl (yld_sub rfl rfl rfl) ?_
  refine TL.yld rfl rfl (yld_assign rfl rfl) ?_
  refine TL.done ?_
  refine NX.seq ?_
  refine WC.seq ?_
  refine WC.seq ?_
  refine WC.region ?_
  refine TL.yld rfl rfl (yld_loadN (us := [.int .i64 a0_x.from_.period_, .int .i64 a0_x.from_.edges_.e0, .int .i64 a0_x.from_.edges_.e1, .int .i64 a0_x.to_.period_, .int .i64 a0_x.to_.edges_.e0, .int .i64 a0_x.to_.edges_.e1, .int .i64 a0_x.ea_, .int .i64 a0_x.eb_, .int .i64 a0_x.hyper_]) rfl ag_86 rfl (Box.cells hb4) cn_86) ?_
  obtain ⟨r8, hr9, hF⟩ := bsome hF
  refine TL.eff rfl rfl (eff_call rfl gf_59 rfl (W_impl_edges_pairs hr9)) ?_
  rintro v12 w10 ⟨_, rfl, hs13, hx11⟩
  have he16 : Ext w w10 := Ext.trans he6 hx11
  have hb4 := Box.ext hb4 hx11
  have hz17 := (hx11).size
  have hbd15 := ownR.blk hs13
  refine TL.yld rfl rfl (yld_len_own (c := (cSl (cInt .i64))) rfl Tryd.underlying38 rfl hs13) ?_
  refine TL.yld rfl rfl (yld_move rfl rfl) ?_
  refine TL.done ?_
  refine NX.seq ?_
  refine WC.block ?_
  refine WC.loop (fun m24 a wl => ∃ (i20 : Int) (i21 : Int), Kn 40 [(1, .pointer (some ⟨b1, 0, none⟩)), (3, .int .i64 i20), (15, v12), (16, .int .i64 ((r8.length : Int))), (17, .int .i64 i21)] a ∧ Ext w wl ∧ w10.heap.size ≤ wl.heap.size ∧ Box wl b1 [.int .i64 a0_x.from_.period_, .int .i64 a0_x.from_.edges_.e0, .int .i64 a0_x.from_.edges_.e1, .int .i64 a0_x.to_.period_, .int .i64 a0_x.to_.edges_.e0, .int .i64 a0_x.to_.edges_.e1, .int .i64 a0_x.ea_, .int .i64 a0_x.eb_, .int .i64 a0_x.hyper_] 86 ∧ ownR (cSl (cInt .i64)) wl (w2.heap.size) (SX (w2.heap.size) wl.heap.size v12) 42 r8 v12 ∧ F_impl_edges_hold_L1 a0_x r8 (fun i20 i21 => (some i20)) m24 i20 i21 = some r) n ?_ ?_
  · intro a hK; exact ⟨(IntKind.wrap IntKind.i64 ((IntKind.wrap IntKind.i64 (0 - a0_x.to_.period_)) - a0_x.from_.period_)), 0, hK.weaken ⟨rfl, rfl, rfl, rfl, rfl, trivial⟩, he16, Nat.le_refl _, hb4, (ownR.wideN hs13 (by omega)), hF⟩
  · rintro m24 a w18 ⟨i20, i21, hK, he19, hz25, hb22, hs23, hF⟩
    revert hK; revert a; refine (?_ : WC _ _ _ _ _ _)
    cases m24 with
    | zero => rw [F_impl_edges_hold_L1_z] at hF; cases hF
    | succ m24 =>
      rw [F_impl_edges_hold_L1_s] at hF
      refine WC.seq ?_
      refine WC.region ?_
      refine TL.yld rfl rfl (yld_lss rfl rfl rfl) ?_
      refine TL.done ?_
      refine NX.seq ?_
      refine WC.seq ?_
      refine WC.cond rfl ?_ ?_
      · intro hc26
        replace hF := bif_t hc26 hF
        refine WC.skip' ?_
        refine NX.seq ?_
        refine WC.seq ?_
        refine WC.block ?_
        refine WC.seq ?_
        refine WC.region ?_
        obtain ⟨x27, hy28, hF⟩ := bsome hF
        refine TL.ye rfl rfl (ye_index_own (c := (cSl (cInt .i64))) rfl Tryd.underlying38 cn_42 rfl rfl hs23 hy28) ?_
        rintro _ ⟨g29, us31, rfl, hg30, hr32, hcl33⟩
        have hr32r := hr32
        obtain ⟨v34, rfl, hs35⟩ := hr32
        have hs36 := slRep.mono hs35 (S' := Iv w2.heap.size w18.heap.size) (fun k h => ⟨h.1, h.2.1⟩) (fun _ _ => rfl)
        refine TL.yld rfl rfl (yld_load1 0 rfl ag_42 rfl hcl33 rfl rfl) ?_
        refine TL.yld rfl rfl (yld_assign rfl rfl) ?_
        refine TL.done ?_
        refine NX.seq ?_
        refine WC.quiet Tryd.hm (by kernel_rfl) ?_
        refine QL.yld rfl rfl (Yld.qui (yld_move rfl rfl)) ?_
        refine QL.yld rfl rfl (Yld.qui (yld_move rfl rfl)) ?_
        obtain ⟨x37, hy38, hF⟩ := bsome hF
        refine QL.ye rfl rfl (ye_index (c := (cInt .i64)) rfl Tryd.underlying42 cn_2 rfl rfl hs36 hy38) ?_
        rintro _ ⟨b39, o40, us41, rfl, hib44, hr42, hcl43⟩
        have hib44 : w2.heap.size ≤ b39 ∧ b39 < w18.heap.size := ⟨hib44.1, by have := hib44.2; omega⟩
        obtain rfl := hr42
        refine QL.yld rfl rfl (Yld.qui (yld_load1 0 rfl ag_2 rfl hcl43 rfl rfl)) ?_
        refine QL.yld rfl rfl (Yld.qui (yld_move rfl rfl)) ?_
        obtain ⟨x45, hy46, hF⟩ := bsome hF
        refine QL.ye rfl rfl (ye_index (c := (cInt .i64)) rfl Tryd.underlying42 cn_2 rfl rfl hs36 hy46) ?_
        rintro _ ⟨b47, o48, us49, rfl, hib52, hr50, hcl51⟩
        have hib52 : w2.heap.size ≤ b47 ∧ b47 < w18.heap.size := ⟨hib52.1, by have := hib52.2; omega⟩
        obtain rfl := hr50
        refine QL.yld rfl rfl (Yld.qui (yld_load1 0 rfl ag_2 rfl hcl51 rfl rfl)) ?_
        refine QL.yld rfl rfl (Yld.qui (yld_sub rfl rfl rfl)) ?_
        refine QL.yld rfl rfl (Yld.qui (yld_fieldAddr rfl fo_86_1 rfl)) ?_
        refine QL.yld rfl rfl (Yld.qui (yld_fieldAddr rfl fo_84_0 rfl)) ?_
        refine QL.yld rfl rfl (Yld.qui (yld_load1 3 rfl ag_2 rfl (Box.cells hb22) rfl rfl)) ?_
        refine QL.yld rfl rfl (Yld.qui (yld_fieldAddr rfl fo_86_0 rfl)) ?_
        refine QL.yld rfl rfl (Yld.qui (yld_fieldAddr rfl fo_84_0 rfl)) ?_
        refine QL.yld rfl rfl (Yld.qui (yld_load1 0 rfl ag_2 rfl (Box.cells hb22) rfl rfl)) ?_
        refine QL.yld rfl rfl (Yld.qui (yld_min2 rfl rfl rfl)) ?_
        refine QL.yld rfl rfl (Yld.qui (yld_sub rfl rfl rfl)) ?_
        refine QL.yld rfl rfl (Yld.qui (yld_max2 rfl rfl rfl)) ?_
        refine QL.yld rfl rfl (Yld.qui (yld_assign rfl rfl)) ?_
        refine QL.done fun w53 hx54 => ?_
        have he55 : Ext w w53 := Ext.trans he19 hx54
        have hb22 := Box.ext hb22 hx54
        have hs36 := slRep.old hs36 hx54 (by omega)
        have hs23 := ownR.extN hs23 hx54 (by omega)
        have hz56 := (hx54).size
        refine NX.blk_n ?_
        refine NX.seq ?_
        refine WC.region ?_
        refine TL.yld rfl rfl (yld_add rfl rfl rfl) ?_
        refine TL.yld rfl rfl (yld_move rfl rfl) ?_
        refine TL.done ?_
        refine NX.then_n ?_
        intro a hK; exact ⟨m24, Nat.lt_succ_self m24, (max i20 (IntKind.wrap IntKind.i64 ((IntKind.wrap IntKind.i64 (x37 - x45)) - (min a0_x.to_.period_ a0_x.from_.period_)))), (IntKind.wrap IntKind.i64 (i21 + 1)), hK.weaken ⟨rfl, rfl, rfl, rfl, rfl, trivial⟩, he55, (by omega), hb22, (ownR.wideN hs23 (by omega)), hF⟩
      · intro hc57
        replace hF := bif_f hc57 hF
        refine WC.exit' ?_
        refine NX.then_e ?_
        refine NX.then_e ?_
        refine NX.blk_hit ?_
        refine NX.seq ?_
        refine WC.seq ?_
        refine WC.region ?_
        refine TL.yld rfl rfl (yld_move rfl rfl) ?_
        refine TL.yld rfl rfl (yld_assign rfl rfl) ?_
        refine TL.done ?_
        refine NX.seq ?_
        refine WC.ret' ?_
        obtain rfl := Option.some.inj hF
        exact NX.end (rs := [.tmp 2]) (vs := [.int .i64 i20]) rfl ⟨rfl, trivial⟩ ⟨_, rfl, rfl, he19⟩

-- loop.example/g00861/impl.MulticycleHold
def F_impl_MulticycleHold (n : Nat) (a0_list : List S_Clock) (a1_a : Int) (a2_ea : Int) (a3_b : Int) (a4_eb : Int) (a5_cycles : Int) (a6_back : Int) : Option (Int × Int) := (Option.bind (F_impl_edgesOf n a0_list a1_a a2_ea a3_b a4_eb) fun r3 => (bif (r3.2 != 0) then (some (0, r3.2)) else (Option.bind (F_impl_within n a5_cycles 1 16) fun r23 => (Option.bind (bif (!r23) then (some true) else (Option.bind (F_impl_within n a6_back 0 a5_cycles) fun r29 => (some (!r29)))) fun c29 => (bif c29 then (some (0, 2)) else (Option.bind (F_impl_edges_hold n r3.1) fun r44 => (some (IntKind.wrap IntKind.i64 (r44 + (IntKind.wrap IntKind.i64 ((IntKind.wrap IntKind.i64 ((IntKind.wrap IntKind.i64 (a5_cycles - 1)) - a6_back)) * r3.1.to_.period_))), 0))))))))
set_option maxHeartbeats 40000000 in
theorem W_impl_MulticycleHold {n : Nat} {a0_list : List S_Clock} {a1_a : Int} {a2_ea : Int} {a3_b : Int} {a4_eb : Int} {a5_cycles : Int} {a6_back : Int} {r : Int × Int} {w : World} {v1 : Value} (hF : F_impl_MulticycleHold n a0_list a1_a a2_ea a3_b a4_eb a5_cycles a6_back = some r) (ha2 : slRep C_Clock w (Iv 0 w.heap.size) a0_list v1) :
    Calls Tryd.prog 22 [v1, .int .i64 a1_a, .int .i64 a2_ea, .int .i64 a3_b, .int .i64 a4_eb, .int .i64 a5_cycles, .int .i64 a6_back].toArray w (Ret fun u w2 => u = .tuple #[.int .i64 r.1, .int .i64 r.2] ∧ Ext w w2) := by
  refine calls_of Tryd.func22 rfl Tryd.ntmps22 ?_
  have he0 : Ext w w := Ext.refl w
  unfold F_impl_MulticycleHold at hF
  refine WC.seq ?_
  refine WC.region ?_
  refine TL.yld rfl rfl (yld_assign rfl rfl) ?_
  refine TL.yld rfl rfl (yld_assign rfl rfl) ?_
  refine TL.done ?_
  refine NX.seq ?_
  refine WC.seq ?_
  refine WC.region ?_
  refine TL.yld rfl rfl (yld_move rfl rfl) ?_
  refine TL.yld rfl rfl (yld_move rfl rfl) ?_
  refine TL.yld rfl rfl (yld_move rfl rfl) ?_
  refine TL.yld rfl rfl (yld_move rfl rfl) ?_
  refine TL.yld rfl rfl (yld_move rfl rfl) ?_
  obtain ⟨r3, hr4, hF⟩ := bsome hF
  refine TL.eff rfl rfl (eff_call rfl gf_53 rfl (W_impl_edgesOf hr4 ((slRep.old ha2 he0 (Nat.le_refl _)).wide (Nat.le_refl _) (he0).size))) ?_
  rintro _ w5 ⟨rfl, hx6⟩
  have he7 : Ext w w5 := Ext.trans he0 hx6
  have hz8 := (hx6).size
  refine TL.yld rfl rfl (yld_move rfl rfl) ?_
  refine TL.yld rfl rfl (yld_extract rfl rfl rfl) ?_
  refine TL.yld rfl rfl (yld_extract rfl rfl rfl) ?_
  refine TL.eff rfl rfl (eff_alloc rfl zn_86) ?_
  rintro _ w10 ⟨b9, rfl, hn11⟩
  obtain ⟨hn11e, hn11s, hn11x, hb12⟩ := hn11
  have hb12 : Box w10 b9 [.int .i64 0, .int .i64 0, .int .i64 0, .int .i64 0, .int .i64 0, .int .i64 0, .int .i64 0, .int .i64 0, .int .i64 0] 86 := hb12
  have he14 : Ext w w10 := Ext.trans he7 hn11x
  have hz15 := (hn11x).size
  have hlo13 : w.heap.size ≤ b9 := by rw [hn11e]; exact (he7).size
  refine TL.eff rfl rfl (eff_store rfl rfl rfl hb12 cn_86 rfl rfl) ?_
  rintro _ w16 ⟨hu17, hb18⟩
  have he19 : Ext w w16 := Below.trans he14 (Upd.below hu17 (by omega))
  have hz20 := (hu17).size
  have hb12 : Box w16 b9 [.int .i64 r3.1.from_.period_, .int .i64 r3.1.from_.edges_.e0, .int .i64 r3.1.from_.edges_.e1, .int .i64 r3.1.to_.period_, .int .i64 r3.1.to_.edges_.e0, .int .i64 r3.1.to_.edges_.e1, .int .i64 r3.1.ea_, .int .i64 r3.1.eb_, .int .i64 r3.1.hyper_] 86 := hb18
  refine TL.yld rfl rfl (yld_assign rfl rfl) ?_
  refine TL.done ?_
  refine NX.seq ?_
  refine WC.seq ?_
  refine WC.block ?_
  refine WC.seq ?_
  refine WC.region ?_
  refine TL.yld rfl rfl (yld_move rfl rfl) ?_
  refine TL.yld rfl rfl (yld_neq rfl rfl rfl) ?_
  refine TL.yld rfl rfl (yld_assign rfl rfl) ?_
  refine TL.done ?_
  refine NX.seq ?_
  refine WC.cond rfl ?_ ?_
  · intro hc21
    replace hF := bif_t hc21 hF
    refine WC.seq ?_
    refine WC.region ?_
    refine TL.yld rfl rfl (yld_move rfl rfl) ?_
    refine TL.yld rfl rfl (yld_assign rfl rfl) ?_
    refine TL.yld rfl rfl (yld_assign rfl rfl) ?_
    refine TL.done ?_
    refine NX.seq ?_
    refine WC.ret' ?_
    refine NX.blk_r ?_
    refine NX.then_r ?_
    obtain rfl := Option.some.inj hF
    exact NX.end (rs := [.tmp 14, .tmp 15]) (vs := [.int .i64 0, .int .i64 r3.2]) rfl ⟨rfl, rfl, trivial⟩ ⟨_, rfl, rfl, he19⟩
  · intro hc22
    replace hF := bif_f hc22 hF
    refine WC.seq ?_
    refine WC.region ?_
    refine TL.yld rfl rfl (yld_move rfl rfl) ?_
    obtain ⟨r23, hr24, hF⟩ := bsome hF
    refine TL.eff rfl rfl (eff_call rfl gf_54 rfl (W_impl_within hr24)) ?_
    rintro _ w25 ⟨rfl, hx26⟩
    have he27 : Ext w w25 := Ext.trans he19 hx26
    have hb12 := Box.ext hb12 hx26
    have hz28 := (hx26).size
    refine TL.yld rfl rfl (yld_not rfl rfl) ?_
    refine TL.yld rfl rfl (yld_move rfl rfl) ?_
    obtain ⟨c29, hb30, hF⟩ := bsome hF
    refine TL.cut 5 [(5, .int .i64 a5_cycles), (6, .int .i64 a6_back), (16, .pointer (some ⟨b9, 0, none⟩)), (40, .bool c29)] (fun w' => Ext w25 w') ?_ ?_
    · rcases Bool.eq_false_or_eq_true (!r23) with hg31 | hg31
      ·
        rw [hg31] at hb30; simp only [cond_true, cond_false] at hb30
        refine TL.gnu (j := 3) (t := 35) rfl rfl rfl hg31 rfl ?_
        refine TL.gnu (j := 3) (t := 35) rfl rfl rfl hg31 rfl ?_
        refine TL.gnu (j := 3) (t := 35) rfl rfl rfl hg31 rfl ?_
        refine TL.gnu (j := 3) (t := 35) rfl rfl rfl hg31 rfl ?_
        obtain rfl := Option.some.inj hb30
        refine TL.yld rfl rfl (yld_pick_t rfl rfl hg31 rfl) ?_
        exact TL.nil fun a h => ⟨h.weaken ⟨rfl, rfl, rfl, rfl, trivial⟩, Ext.refl _⟩
      ·
        rw [hg31] at hb30; simp only [cond_true, cond_false] at hb30
        replace hF := hb30
        refine TL.gy (j := 3) (t := 35) rfl rfl rfl hg31 rfl (yld_move rfl rfl) ?_
        refine TL.gy (j := 3) (t := 35) rfl rfl rfl hg31 rfl (yld_move rfl rfl) ?_
        obtain ⟨r32, hr33, hF⟩ := bsome hF
        refine TL.ge (j := 3) (t := 35) rfl rfl rfl hg31 rfl (eff_call rfl gf_54 rfl (W_impl_within hr33)) ?_
        rintro _ w34 ⟨rfl, hx35⟩
        have he36 : Ext w w34 := Ext.trans he27 hx35
        have hb12 := Box.ext hb12 hx35
        have hz37 := (hx35).size
        refine TL.gy (j := 3) (t := 35) rfl rfl rfl hg31 rfl (yld_not rfl rfl) ?_
        obtain rfl := Option.some.inj hF
        refine TL.yld rfl rfl (yld_pick_f rfl rfl hg31 rfl) ?_
        exact TL.nil fun a h => ⟨h.weaken ⟨rfl, rfl, rfl, rfl, trivial⟩, hx35⟩
    intro w38 hx39
    have he40 : Ext w w38 := Ext.trans he27 hx39
    have hb12 := Box.ext hb12 hx39
    have hz41 := (hx39).size
    refine TL.yld rfl rfl (yld_assign rfl rfl) ?_
    refine TL.done ?_
    refine NX.seq ?_
    refine WC.cond rfl ?_ ?_
    · intro hc42
      replace hF := bif_t hc42 hF
      refine WC.seq ?_
      refine WC.region ?_
      refine TL.yld rfl rfl (yld_assign rfl rfl) ?_
      refine TL.yld rfl rfl (yld_assign rfl rfl) ?_
      refine TL.done ?_
      refine NX.seq ?_
      refine WC.ret' ?_
      refine NX.blk_r ?_
      refine NX.then_r ?_
      obtain rfl := Option.some.inj hF
      exact NX.end (rs := [.tmp 14, .tmp 15]) (vs := [.int .i64 0, .int .i64 2]) rfl ⟨rfl, rfl, trivial⟩ ⟨_, rfl, rfl, he40⟩
    · intro hc43
      replace hF := bif_f hc43 hF
      refine WC.skip' ?_
      refine NX.blk_n ?_
      refine NX.seq ?_
      refine WC.seq ?_
      refine WC.quiet Tryd.hm (by kernel_rfl) ?_
      refine QL.yld rfl rfl (Yld.qui (yld_loadN (us := [.int .i64 r3.1.from_.period_, .int .i64 r3.1.from_.edges_.e0, .int .i64 r3.1.from_.edges_.e1, .int .i64 r3.1.to_.period_, .int .i64 r3.1.to_.edges_.e0, .int .i64 r3.1.to_.edges_.e1, .int .i64 r3.1.ea_, .int .i64 r3.1.eb_, .int .i64 r3.1.hyper_]) rfl ag_86 rfl (Box.cells hb12) cn_86)) ?_
      obtain ⟨r44, hr45, hF⟩ := bsome hF
      refine QL.yld rfl rfl (qui_call rfl gf_56 rfl fun w' hw' => W_impl_edges_hold hr45) ?_
      refine QL.yld rfl rfl (Yld.qui (yld_move rfl rfl)) ?_
      refine QL.yld rfl rfl (Yld.qui (yld_sub rfl rfl rfl)) ?_
      refine QL.yld rfl rfl (Yld.qui (yld_move rfl rfl)) ?_
      refine QL.yld rfl rfl (Yld.qui (yld_sub rfl rfl rfl)) ?_
      refine QL.yld rfl rfl (Yld.qui (yld_fieldAddr rfl fo_86_1 rfl)) ?_
      refine QL.yld rfl rfl (Yld.qui (yld_fieldAddr rfl fo_84_0 rfl)) ?_
      refine QL.yld rfl rfl (Yld.qui (yld_load1 3 rfl ag_2 rfl (Box.cells hb12) rfl rfl)) ?_
      refine QL.yld rfl rfl (Yld.qui (yld_mul rfl rfl rfl)) ?_
      refine QL.yld rfl rfl (Yld.qui (yld_add rfl rfl rfl)) ?_
      refine QL.yld rfl rfl (Yld.qui (yld_assign rfl rfl)) ?_
      refine QL.yld rfl rfl (Yld.qui (yld_assign rfl rfl)) ?_
      refine QL.done fun w46 hx47 => ?_
      have he48 : Ext w w46 := Ext.trans he40 hx47
      have hb12 := Box.ext hb12 hx47
      have hz49 := (hx47).size
      refine NX.seq ?_
      refine WC.ret' ?_
      obtain rfl := Option.some.inj hF
      exact NX.end (rs := [.tmp 14, .tmp 15]) (vs := [.int .i64 (IntKind.wrap IntKind.i64 (r44 + (IntKind.wrap IntKind.i64 ((IntKind.wrap IntKind.i64 ((IntKind.wrap IntKind.i64 (a5_cycles - 1)) - a6_back)) * r3.1.to_.period_)))), .int .i64 0]) rfl ⟨rfl, rfl, trivial⟩ ⟨_, rfl, rfl, he48⟩

-- loop.example/g00861/laws.FnExactMulticycleHold
def F_laws_FnExactMulticycleHold (n : Nat) (a0_aList : List S_Clock) (a1_aA : Int) (a2_aEa : Int) (a3_aB : Int) (a4_aEb : Int) (a5_aCycles : Int) (a6_aBack : Int) : Option Bool := (Option.bind (F_laws_szClockS n a0_aList 1048576) fun r3 => (bif decide (r3 < 0) then (some true) else (Option.bind (F_laws_toClockS n a0_aList) fun r11 => (Option.bind (F_spec_MulticycleHold n r11 a1_aA a2_aEa a3_aB a4_aEb a5_aCycles a6_aBack) fun r21 => (Option.bind (F_laws_toClockS n a0_aList) fun r27 => (Option.bind (F_impl_MulticycleHold n r27 a1_aA a2_aEa a3_aB a4_aEb a5_aCycles a6_aBack) fun r37 => (bif (((r37.1 != r21.1)) || ((r37.2 != r21.2))) then (some false) else (Option.bind (F_laws_toClockS n a0_aList) fun r50 => (Option.bind (F_laws_eqClockS n r27 r50) fun r60 => (bif (!r60) then (some false) else (some true)))))))))))
set_option maxHeartbeats 40000000 in
theorem W_laws_FnExactMulticycleHold {n : Nat} {a0_aList : List S_Clock} {a1_aA : Int} {a2_aEa : Int} {a3_aB : Int} {a4_aEb : Int} {a5_aCycles : Int} {a6_aBack : Int} {r : Bool} {w : World} {v1 : Value} (hF : F_laws_FnExactMulticycleHold n a0_aList a1_aA a2_aEa a3_aB a4_aEb a5_aCycles a6_aBack = some r) (ha2 : slRep C_Clock w (Iv 0 w.heap.size) a0_aList v1) :
    Calls Tryd.prog 6 [v1, .int .i64 a1_aA, .int .i64 a2_aEa, .int .i64 a3_aB, .int .i64 a4_aEb, .int .i64 a5_aCycles, .int .i64 a6_aBack].toArray w (Ret fun u w2 => u = .bool r ∧ Ext w w2) := by
  refine calls_of Tryd.func6 rfl Tryd.ntmps6 ?_
  have he0 : Ext w w := Ext.refl w
  unfold F_laws_FnExactMulticycleHold at hF
  refine WC.seq ?_
  refine WC.region ?_
  refine TL.yld rfl rfl (yld_assign rfl rfl) ?_
  refine TL.done ?_
  refine NX.seq ?_
  refine WC.seq ?_
  refine WC.region ?_
  refine TL.yld rfl rfl (yld_assign rfl rfl) ?_
  refine TL.done ?_
  refine NX.seq ?_
  refine WC.seq ?_
  refine WC.region ?_
  refine TL.yld rfl rfl (yld_move rfl rfl) ?_
  refine TL.yld rfl rfl (yld_move rfl rfl) ?_
  obtain ⟨r3, hr4, hF⟩ := bsome hF
  refine TL.eff rfl rfl (eff_call rfl gf_12 rfl (W_laws_szClockS hr4 ((slRep.old ha2 he0 (Nat.le_refl _)).wide (Nat.le_refl _) (he0).size))) ?_
  rintro _ w5 ⟨rfl, hx6⟩
  have he7 : Ext w w5 := Ext.trans he0 hx6
  have hz8 := (hx6).size
  refine TL.yld rfl rfl (yld_assign rfl rfl) ?_
  refine TL.done ?_
  refine NX.seq ?_
  refine WC.seq ?_
  refine WC.seq ?_
  refine WC.region ?_
  refine TL.yld rfl rfl (yld_move rfl rfl) ?_
  refine TL.yld rfl rfl (yld_lss rfl rfl rfl) ?_
  refine TL.done ?_
  refine NX.seq ?_
  refine WC.cond rfl ?_ ?_
  · intro hc9
    replace hF := bif_t hc9 hF
    refine WC.seq ?_
    refine WC.region ?_
    refine TL.yld rfl rfl (yld_assign rfl rfl) ?_
    refine TL.done ?_
    refine NX.seq ?_
    refine WC.ret' ?_
    refine NX.then_r ?_
    obtain rfl := Option.some.inj hF
    exact NX.end (rs := [.tmp 14]) (vs := [.bool true]) rfl ⟨rfl, trivial⟩ ⟨_, rfl, rfl, he7⟩
  · intro hc10
    replace hF := bif_f hc10 hF
    refine WC.skip' ?_
    refine NX.seq ?_
    refine WC.seq ?_
    refine WC.region ?_
    refine TL.yld rfl rfl (yld_move rfl rfl) ?_
    obtain ⟨r11, hr12, hF⟩ := bsome hF
    refine TL.eff rfl rfl (eff_call rfl gf_14 rfl (W_laws_toClockS hr12 ((slRep.old ha2 he7 (Nat.le_refl _)).wide (Nat.le_refl _) (he7).size))) ?_
    rintro v15 w13 ⟨_, rfl, hs16, hx14⟩
    have he19 : Ext w w13 := Ext.trans he7 hx14
    have hz20 := (hx14).size
    have hbd18 := ownR.blk hs16
    refine TL.yld rfl rfl (yld_move rfl rfl) ?_
    refine TL.yld rfl rfl (yld_move rfl rfl) ?_
    refine TL.yld rfl rfl (yld_move rfl rfl) ?_
    refine TL.yld rfl rfl (yld_move rfl rfl) ?_
    refine TL.yld rfl rfl (yld_move rfl rfl) ?_
    refine TL.yld rfl rfl (yld_move rfl rfl) ?_
    obtain ⟨r21, hr22, hF⟩ := bsome hF
    refine TL.eff rfl rfl (eff_call rfl gf_21 rfl (W_spec_MulticycleHold hr22 (ownR.slf hs16 (Nat.zero_le _) (Nat.le_refl _)))) ?_
    rintro _ w23 ⟨rfl, hx24⟩
    have he25 : Ext w w23 := Ext.trans he19 hx24
    have hs16 := ownR.ext hs16 hx24
    have hz26 := (hx24).size
    refine TL.yld rfl rfl (yld_move rfl rfl) ?_
    refine TL.yld rfl rfl (yld_extract rfl rfl rfl) ?_
    refine TL.yld rfl rfl (yld_extract rfl rfl rfl) ?_
    refine TL.yld rfl rfl (yld_assign rfl rfl) ?_
    refine TL.yld rfl rfl (yld_assign rfl rfl) ?_
    refine TL.done ?_
    refine NX.seq ?_
    refine WC.seq ?_
    refine WC.region ?_
    refine TL.yld rfl rfl (yld_move rfl rfl) ?_
    obtain ⟨r27, hr28, hF⟩ := bsome hF
    refine TL.eff rfl rfl (eff_call rfl gf_14 rfl (W_laws_toClockS hr28 ((slRep.old ha2 he25 (Nat.le_refl _)).wide (Nat.le_refl _) (he25).size))) ?_
    rintro v31 w29 ⟨_, rfl, hs32, hx30⟩
    have he35 : Ext w w29 := Ext.trans he25 hx30
    have hs16 := ownR.ext hs16 hx30
    have hz36 := (hx30).size
    have hbd34 := ownR.blk hs32
    refine TL.yld rfl rfl (yld_assign rfl rfl) ?_
    refine TL.done ?_
    refine NX.seq ?_
    refine WC.seq ?_
    refine WC.region ?_
    refine TL.yld rfl rfl (yld_move rfl rfl) ?_
    refine TL.yld rfl rfl (yld_move rfl rfl) ?_
    refine TL.yld rfl rfl (yld_move rfl rfl) ?_
    refine TL.yld rfl rfl (yld_move rfl rfl) ?_
    refine TL.yld rfl rfl (yld_move rfl rfl) ?_
    refine TL.yld rfl rfl (yld_move rfl rfl) ?_
    refine TL.yld rfl rfl (yld_move rfl rfl) ?_
    obtain ⟨r37, hr38, hF⟩ := bsome hF
    refine TL.eff rfl rfl (eff_call rfl gf_22 rfl (W_impl_MulticycleHold hr38 (ownR.slf hs32 (Nat.zero_le _) (Nat.le_refl _)))) ?_
    rintro _ w39 ⟨rfl, hx40⟩
    have he41 : Ext w w39 := Ext.trans he35 hx40
    have hs16 := ownR.ext hs16 hx40
    have hs32 := ownR.ext hs32 hx40
    have hz42 := (hx40).size
    refine TL.yld rfl rfl (yld_move rfl rfl) ?_
    refine TL.yld rfl rfl (yld_extract rfl rfl rfl) ?_
    refine TL.yld rfl rfl (yld_extract rfl rfl rfl) ?_
    refine TL.yld rfl rfl (yld_assign rfl rfl) ?_
    refine TL.yld rfl rfl (yld_assign rfl rfl) ?_
    refine TL.done ?_
    refine NX.seq ?_
    refine WC.seq ?_
    refine WC.seq ?_
    refine WC.region ?_
    refine TL.yld rfl rfl (yld_move rfl rfl) ?_
    refine TL.yld rfl rfl (yld_move rfl rfl) ?_
    refine TL.yld rfl rfl (yld_neq rfl rfl rfl) ?_
    refine TL.yld rfl rfl (yld_move rfl rfl) ?_
    refine TL.cut 4 [(0, v1), (18, v31), (58, .bool ((((r37.1 != r21.1)) || ((r37.2 != r21.2)))))] (fun w' => Ext w39 w') ?_ ?_
    · rcases Bool.eq_false_or_eq_true ((r37.1 != r21.1)) with hg43 | hg43
      ·
        refine TL.gnu (j := 3) (t := 54) rfl rfl rfl hg43 rfl ?_
        refine TL.gnu (j := 3) (t := 54) rfl rfl rfl hg43 rfl ?_
        refine TL.gnu (j := 3) (t := 54) rfl rfl rfl hg43 rfl ?_
        refine TL.yld rfl rfl (yld_or_t (b2 := (r37.2 != r21.2)) rfl rfl hg43 rfl) ?_
        exact TL.nil fun a h => ⟨h.weaken ⟨rfl, rfl, rfl, trivial⟩, Ext.refl _⟩
      ·
        refine TL.gy (j := 3) (t := 54) rfl rfl rfl hg43 rfl (yld_move rfl rfl) ?_
        refine TL.gy (j := 3) (t := 54) rfl rfl rfl hg43 rfl (yld_move rfl rfl) ?_
        refine TL.gy (j := 3) (t := 54) rfl rfl rfl hg43 rfl (yld_neq rfl rfl rfl) ?_
        refine TL.yld rfl rfl (yld_or_f rfl rfl hg43 rfl) ?_
        exact TL.nil fun a h => ⟨h.weaken ⟨rfl, rfl, rfl, trivial⟩, Ext.refl _⟩
    intro w44 hx45
    have he46 : Ext w w44 := Ext.trans he41 hx45
    have hs16 := ownR.ext hs16 hx45
    have hs32 := ownR.ext hs32 hx45
    have hz47 := (hx45).size
    refine TL.done ?_
    refine NX.seq ?_
    refine WC.cond rfl ?_ ?_
    · intro hc48
      replace hF := bif_t hc48 hF
      refine WC.seq ?_
      refine WC.region ?_
      refine TL.yld rfl rfl (yld_assign rfl rfl) ?_
      refine TL.done ?_
      refine NX.seq ?_
      refine WC.ret' ?_
      refine NX.then_r ?_
      obtain rfl := Option.some.inj hF
      exact NX.end (rs := [.tmp 14]) (vs := [.bool false]) rfl ⟨rfl, trivial⟩ ⟨_, rfl, rfl, he46⟩
    · intro hc49
      replace hF := bif_f hc49 hF
      refine WC.skip' ?_
      refine NX.seq ?_
      refine WC.seq ?_
      refine WC.seq ?_
      refine WC.region ?_
      refine TL.yld rfl rfl (yld_move rfl rfl) ?_
      refine TL.yld rfl rfl (yld_move rfl rfl) ?_
      obtain ⟨r50, hr51, hF⟩ := bsome hF
      refine TL.eff rfl rfl (eff_call rfl gf_14 rfl (W_laws_toClockS hr51 ((slRep.old ha2 he46 (Nat.le_refl _)).wide (Nat.le_refl _) (he46).size))) ?_
      rintro v54 w52 ⟨_, rfl, hs55, hx53⟩
      have he58 : Ext w w52 := Ext.trans he46 hx53
      have hs16 := ownR.ext hs16 hx53
      have hs32 := ownR.ext hs32 hx53
      have hz59 := (hx53).size
      have hbd57 := ownR.blk hs55
      obtain ⟨r60, hr61, hF⟩ := bsome hF
      refine TL.eff rfl rfl (eff_call rfl gf_16 rfl (W_laws_eqClockS hr61 (ownR.slf hs32 (Nat.zero_le _) (Nat.le_refl _)) (ownR.slf hs55 (Nat.zero_le _) (Nat.le_refl _)))) ?_
      rintro _ w62 ⟨rfl, hx63⟩
      have he64 : Ext w w62 := Ext.trans he58 hx63
      have hs16 := ownR.ext hs16 hx63
      have hs32 := ownR.ext hs32 hx63
      have hs55 := ownR.ext hs55 hx63
      have hz65 := (hx63).size
      refine TL.yld rfl rfl (yld_not rfl rfl) ?_
      refine TL.done ?_
      refine NX.seq ?_
      refine WC.cond rfl ?_ ?_
      · intro hc66
        replace hF := bif_t hc66 hF
        refine WC.seq ?_
        refine WC.region ?_
        refine TL.yld rfl rfl (yld_assign rfl rfl) ?_
        refine TL.done ?_
        refine NX.seq ?_
        refine WC.ret' ?_
        refine NX.then_r ?_
        obtain rfl := Option.some.inj hF
        exact NX.end (rs := [.tmp 14]) (vs := [.bool false]) rfl ⟨rfl, trivial⟩ ⟨_, rfl, rfl, he64⟩
      · intro hc67
        replace hF := bif_f hc67 hF
        refine WC.skip' ?_
        refine NX.seq ?_
        refine WC.seq ?_
        refine WC.region ?_
        refine TL.yld rfl rfl (yld_assign rfl rfl) ?_
        refine TL.done ?_
        refine NX.seq ?_
        refine WC.ret' ?_
        obtain rfl := Option.some.inj hF
        exact NX.end (rs := [.tmp 14]) (vs := [.bool true]) rfl ⟨rfl, trivial⟩ ⟨_, rfl, rfl, he64⟩

-- loop.example/g00861/spec.SetupSeparation
def F_spec_SetupSeparation_L1 (r11 : List (List Int)) (k0 : Int → Int → Option (Int × Int)) : Nat → Int → Int → Option (Int × Int)
  | 0 => fun _ _ => none
  | m + 1 => fun i63 i64 => (bif decide (i64 < (r11.length : Int)) then (Option.bind (getI r11 i64) fun x67 => (Option.bind (getI x67 1) fun x77 => (Option.bind (getI r11 i64) fun x85 => (Option.bind (getI x85 0) fun x95 => (F_spec_SetupSeparation_L1 r11 k0 m (min i63 (IntKind.wrap IntKind.i64 (x77 - x95))) (IntKind.wrap IntKind.i64 (i64 + 1))))))) else (k0 i63 i64))
theorem F_spec_SetupSeparation_L1_z (r11 : List (List Int)) (k0 : Int → Int → Option (Int × Int)) (i63 : Int) (i64 : Int) : F_spec_SetupSeparation_L1 r11 k0 0 i63 i64 = none := rfl
theorem F_spec_SetupSeparation_L1_s (m : Nat) (r11 : List (List Int)) (k0 : Int → Int → Option (Int × Int)) (i63 : Int) (i64 : Int) : F_spec_SetupSeparation_L1 r11 k0 (m + 1) i63 i64 = (bif decide (i64 < (r11.length : Int)) then (Option.bind (getI r11 i64) fun x67 => (Option.bind (getI x67 1) fun x77 => (Option.bind (getI r11 i64) fun x85 => (Option.bind (getI x85 0) fun x95 => (F_spec_SetupSeparation_L1 r11 k0 m (min i63 (IntKind.wrap IntKind.i64 (x77 - x95))) (IntKind.wrap IntKind.i64 (i64 + 1))))))) else (k0 i63 i64)) := rfl

def F_spec_SetupSeparation (n : Nat) (a0_list : List S_Clock) (a1_a : Int) (a2_ea : Int) (a3_b : Int) (a4_eb : Int) : Option (Int × Int) := (Option.bind (F_spec_l15Code n a0_list a1_a a2_ea a3_b a4_eb) fun r3 => (bif (r3 != 0) then (some (0, r3)) else (Option.bind (F_spec_l15Pairs n a0_list a1_a a2_ea a3_b a4_eb) fun r11 => (Option.bind (getI r11 0) fun x21 => (Option.bind (getI x21 1) fun x31 => (Option.bind (getI r11 0) fun x39 => (Option.bind (getI x39 0) fun x49 => (F_spec_SetupSeparation_L1 r11 (fun i63 i64 => (some (i63, 0))) n (IntKind.wrap IntKind.i64 (x31 - x49)) 0))))))))

-- (loop.example/g00861/impl.edges).setup
def F_impl_edges_setup_L1 (r8 : List (List Int)) (k0 : Int → Int → Option Int) : Nat → Int → Int → Option Int
  | 0 => fun _ _ => none
  | m + 1 => fun i20 i21 => (bif decide (i21 < (r8.length : Int)) then (Option.bind (getI r8 i21) fun x24 => (Option.bind (getI x24 1) fun x34 => (Option.bind (getI x24 0) fun x42 => (F_impl_edges_setup_L1 r8 k0 m (min i20 (IntKind.wrap IntKind.i64 (x34 - x42))) (IntKind.wrap IntKind.i64 (i21 + 1)))))) else (k0 i20 i21))
theorem F_impl_edges_setup_L1_z (r8 : List (List Int)) (k0 : Int → Int → Option Int) (i20 : Int) (i21 : Int) : F_impl_edges_setup_L1 r8 k0 0 i20 i21 = none := rfl
theorem F_impl_edges_setup_L1_s (m : Nat) (r8 : List (List Int)) (k0 : Int → Int → Option Int) (i20 : Int) (i21 : Int) : F_impl_edges_setup_L1 r8 k0 (m + 1) i20 i21 = (bif decide (i21 < (r8.length : Int)) then (Option.bind (getI r8 i21) fun x24 => (Option.bind (getI x24 1) fun x34 => (Option.bind (getI x24 0) fun x42 => (F_impl_edges_setup_L1 r8 k0 m (min i20 (IntKind.wrap IntKind.i64 (x34 - x42))) (IntKind.wrap IntKind.i64 (i21 + 1)))))) else (k0 i20 i21)) := rfl

def F_impl_edges_setup (n : Nat) (a0_x : S_edges) : Option Int := (Option.bind (F_impl_edges_pairs n a0_x) fun r8 => (F_impl_edges_setup_L1 r8 (fun i20 i21 => (some i20)) n a0_x.to_.period_ 0))

theorem Z_Clock {n : Nat} {a : S_Clock} {left : Int} (hR : R_Clock a) (h0 : 0 ≤ left) (h1 : left ≤ 1048576) (hn : 1048577 ≤ n) : ∃ r, F_laws_szClock n a left = some r ∧ r ≤ left ∧ (0 ≤ r → SM_Clock a) := by
  rw [F_laws_szClock]
  have g0 : a.Name.size ≤ 9223372036854775807 := maxLen_is ▸ hR.1
  have w0 : IntKind.wrap IntKind.i64 (left - (a.Name.size : Int)) = left - (a.Name.size : Int) := wrap64 (by omega) (by omega)
  rw [w0]
  generalize hq0 : left - (a.Name.size : Int) = r0
  by_cases h_0 : r0 < 0
  · rw [decide_eq_true h_0]; exact ⟨-1, rfl, by omega, fun h => by omega⟩
  rw [decide_eq_false h_0, cond_false]
  exact ⟨_, rfl, by omega, fun _ => ⟨(by omega), trivial, trivial, trivial, trivial, trivial, trivial, trivial, trivial, trivial, trivial⟩⟩
theorem Z_ClockS {n : Nat} {a : List S_Clock} {left : Int} (hR : (fun xs => xs.length ≤ 9223372036854775807 ∧ ∀ x ∈ xs, R_Clock x) a) (h0 : 0 ≤ left) (h1 : left ≤ 1048576) (hn : 1048577 ≤ n) : ∃ r, F_laws_szClockS n a left = some r ∧ r ≤ left ∧ (0 ≤ r → (fun xs => xs.length ≤ 1048576 ∧ ∀ x ∈ xs, SM_Clock x) a) := by
  have hl := hR.1
  rw [F_laws_szClockS, wrap64 (by omega) (by omega)]
  by_cases h : left - (a.length : Int) < 0
  · rw [decide_eq_true h]; exact ⟨-1, rfl, by omega, fun h => by omega⟩
  · rw [decide_eq_false h, cond_false]
    obtain ⟨r, e, hr, hs⟩ := szL (xs := a) (L := fun m l i => F_laws_szClockS_L1 n a (fun i7 i8 => (some i7)) m l i) (f := F_laws_szClock n) (SM := SM_Clock) (by omega) (fun x hx left g0 g1 => Z_Clock (hR.2 x hx) g0 g1 hn) (fun m i left hi hi2 => by simp only [F_laws_szClockS_L1_s, dltE hi, cond_true, getI_elE hi, Option.bind_some, wSE hi2]) (fun m left => by simp only [F_laws_szClockS_L1_s, dnlE, cond_false]) n 0 (left - (a.length : Int)) (by omega) (by omega) (by omega) (by omega) (fun j _ hj => by omega)
    exact ⟨r, e, by omega, fun h => ⟨by omega, hs h⟩⟩
theorem T_Clock {n : Nat} {a : S_Clock} (h : SM_Clock a) (hn : 1048577 ≤ n) : F_laws_toClock n a = some a := by
  rfl
theorem TL_ClockS {n : Nat} {a : List S_Clock} {k : Int → List S_Clock → Option (List S_Clock)} : ∀ (m : Nat) (i : Int) (l : List S_Clock), F_laws_toClockS_L1 n a k m i l = cpL a (F_laws_toClock n) k m i l
  | 0, _, _ => rfl
  | m + 1, i, l => by simp only [F_laws_toClockS_L1_s, cpL_s, Option.bind_some, TL_ClockS (n := n) (a := a) (k := k) m]
theorem T_ClockS {n : Nat} {a : List S_Clock} (h : (fun xs => xs.length ≤ 1048576 ∧ ∀ x ∈ xs, SM_Clock x) a) (hn : 1048577 ≤ n) : F_laws_toClockS n a = some a := by
  rw [F_laws_toClockS, mkN_ok h.1 (by omega), Option.bind_some, TL_ClockS (n := n)]
  exact cpL_id (fun x hx => T_Clock (h.2 x hx) hn) h.1 hn
theorem E_Clock {n : Nat} {a : S_Clock} (h : SM_Clock a) (hn : 1048577 ≤ n) : F_laws_eqClock n a a = some true := by
  simp [F_laws_eqClock]
theorem EL_ClockS {n : Nat} {a b : List S_Clock} {k : Int → Option Bool} : ∀ (m : Nat) (i : Int), F_laws_eqClockS_L1 n a b k m i = eqL a b (F_laws_eqClock n) (some false) k m i
  | 0, _ => rfl
  | m + 1, i => by simp only [F_laws_eqClockS_L1_s, eqL_s, Option.bind_some, bne, EL_ClockS (n := n) (a := a) (b := b) (k := k) m]
theorem E_ClockS {n : Nat} {a : List S_Clock} (h : (fun xs => xs.length ≤ 1048576 ∧ ∀ x ∈ xs, SM_Clock x) a) (hn : 1048577 ≤ n) : F_laws_eqClockS n a a = some true := by
  rw [F_laws_eqClockS, EL_ClockS (n := n)]
  have := eqL_same (f := F_laws_eqClock n) (no := some false) (k := fun (i : Int) => some true) (fun x hx => E_Clock (h.2 x hx) hn) h.1 n 0 (by omega) (by omega)
  simpa using this
theorem Rd_2 : Rd Tryd.prog 2 (cInt .i64) (inK .i64) := Rd.int Tryd.underlying2
theorem Rd_9 : Rd Tryd.prog 9 cStr (fun s => s.size ≤ maxLen) := Rd.str Tryd.underlying9
theorem Rd_4 : Rd Tryd.prog 4 cBool (fun _ => True) := Rd.bool Tryd.underlying4
theorem Rd_72 : Rd Tryd.prog 72 C_Clock R_Clock := Rd.map (Rd.struct (fs := [_, _, _, _, _, _, _, _, _, _, _]) Tryd.underlying72 (by kernel_rfl) (RdF.cons Rd_9 rfl (by kernel_rfl) (RdF.cons Rd_2 rfl (by kernel_rfl) (RdF.cons Rd_2 rfl (by kernel_rfl) (RdF.cons Rd_2 rfl (by kernel_rfl) (RdF.cons Rd_2 rfl (by kernel_rfl) (RdF.cons Rd_2 rfl (by kernel_rfl) (RdF.cons Rd_2 rfl (by kernel_rfl) (RdF.cons Rd_4 rfl (by kernel_rfl) (RdF.cons Rd_2 rfl (by kernel_rfl) (RdF.cons Rd_2 rfl (by kernel_rfl) (RdF.one Rd_2 rfl (by kernel_rfl))))))))))))) (fun (x : S_Clock) => (x.Name, x.Place, x.Period, x.RiseAt, x.FallAt, x.Source, x.Divide, x.Invert, x.EarlyLatency, x.LateLatency, x.Uncertainty)) (fun p => (⟨p.1, p.2.1, p.2.2.1, p.2.2.2.1, p.2.2.2.2.1, p.2.2.2.2.2.1, p.2.2.2.2.2.2.1, p.2.2.2.2.2.2.2.1, p.2.2.2.2.2.2.2.2.1, p.2.2.2.2.2.2.2.2.2.1, p.2.2.2.2.2.2.2.2.2.2⟩ : S_Clock)) (fun _ => rfl)
theorem Rd_22 : Rd Tryd.prog 22 (cSl C_Clock) (fun xs => xs.length ≤ 9223372036854775807 ∧ ∀ x ∈ xs, R_Clock x) := Rd.slice Tryd.underlying22 (by kernel_rfl) rfl Rd_72
end Go.Proofs.YthjagnioabgceabDoor
