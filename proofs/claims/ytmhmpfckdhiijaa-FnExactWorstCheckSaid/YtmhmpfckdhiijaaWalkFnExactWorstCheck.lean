/- The walks: every function that FnExactWorstCheck reaches computes the plain function that is typed beside it; no condition. -/
import Derived.Test.YtmhmpfckdhiijaaProg
import Derived.Test.YtmhmpfckdhiijaaDat
set_option linter.all false
set_option maxRecDepth 20000
namespace Go.Proofs.Ytmhmpfckdhiijaa
open Go Go.RowKit Go.Eng
theorem Try.hm : Try.prog.follows .mixedOrders = true := by kernel_rfl
theorem ag_2 : aggB Try.prog 2 = some false := by kernel_rfl
theorem ag_54 : aggB Try.prog 54 = some true := by kernel_rfl
theorem ag_71 : aggB Try.prog 71 = some true := by kernel_rfl
theorem cn_2 : cellsN Try.prog 2 = some 1 := by kernel_rfl
theorem cn_54 : cellsN Try.prog 54 = some 4 := by kernel_rfl
theorem cn_71 : cellsN Try.prog 71 = some 4 := by kernel_rfl
theorem fo_54_0 : fieldOff Try.prog 54 0 = some 0 := by kernel_rfl
theorem fo_54_1 : fieldOff Try.prog 54 1 = some 1 := by kernel_rfl
theorem fo_54_2 : fieldOff Try.prog 54 2 = some 2 := by kernel_rfl
theorem fo_54_3 : fieldOff Try.prog 54 3 = some 3 := by kernel_rfl
theorem fo_71_0 : fieldOff Try.prog 71 0 = some 0 := by kernel_rfl
theorem fo_71_1 : fieldOff Try.prog 71 1 = some 1 := by kernel_rfl
theorem fo_71_2 : fieldOff Try.prog 71 2 = some 2 := by kernel_rfl
theorem fo_71_3 : fieldOff Try.prog 71 3 = some 3 := by kernel_rfl
theorem gf_13 : goFn Try.prog 13 = true := by kernel_rfl
theorem gf_14 : goFn Try.prog 14 = true := by kernel_rfl
theorem gf_15 : goFn Try.prog 15 = true := by kernel_rfl
theorem gf_16 : goFn Try.prog 16 = true := by kernel_rfl
theorem gf_17 : goFn Try.prog 17 = true := by kernel_rfl
theorem gf_53 : goFn Try.prog 53 = true := by kernel_rfl
theorem gf_54 : goFn Try.prog 54 = true := by kernel_rfl
theorem in_54 : infoN Try.prog 54 = some ([.int .i64 0, .int .i64 0, .int .i64 0, .int .i64 0], 4, 32) := by kernel_rfl
theorem zn_54 : zeroN Try.prog 54 = some [.int .i64 0, .int .i64 0, .int .i64 0, .int .i64 0] := by kernel_rfl
-- loop.example/g00861/laws.szCheckS
def F13 (n : Nat) (a0_a : List S_Check) (a1_left : Int) : Option Int := (bif decide (IntKind.wrap IntKind.i64 (a1_left - ((a0_a.length : Int))) < 0) then (some (-1)) else (some (IntKind.wrap IntKind.i64 (a1_left - ((a0_a.length : Int))))))
theorem W13 {n : Nat} {a0_a : List S_Check} {a1_left : Int} {r : Int} {w : World} {v1 : Value} (hF : F13 n a0_a a1_left = some r) (ha2 : slRep C_Check w (Iv 0 w.heap.size) a0_a v1) :
    Calls Try.prog 13 [v1, .int .i64 a1_left].toArray w (Ret fun u w2 => u = .int .i64 r ∧ Ext w w2) := by
  refine calls_of Try.func13 rfl Try.ntmps13 ?_
  have he0 : Ext w w := Ext.refl w
  unfold F13 at hF
  refine WC.seq ?_
  refine WC.region ?_
  refine TL.yld rfl rfl (yld_assign rfl rfl) ?_
  refine TL.done ?_
  refine NX.seq ?_
  refine WC.seq ?_
  refine WC.region ?_
  refine TL.yld rfl rfl (yld_move rfl rfl) ?_
  refine TL.yld rfl rfl (yld_move rfl rfl) ?_
  refine TL.yld rfl rfl (ye_len (c := C_Check) rfl Try.underlying22 rfl (slRep.old ha2 he0 (Nat.le_refl _))) ?_
  refine TL.yld rfl rfl (yld_sub rfl rfl rfl) ?_
  refine TL.yld rfl rfl (yld_assign rfl rfl) ?_
  refine TL.done ?_
  refine NX.seq ?_
  refine WC.seq ?_
  refine WC.seq ?_
  refine WC.region ?_
  refine TL.yld rfl rfl (yld_move rfl rfl) ?_
  refine TL.yld rfl rfl (yld_lss rfl rfl rfl) ?_
  refine TL.done ?_
  refine NX.seq ?_
  refine WC.cond rfl ?_ ?_
  · intro hc3
    replace hF := bif_t hc3 hF
    refine WC.seq ?_
    refine WC.region ?_
    refine TL.yld rfl rfl (yld_assign rfl rfl) ?_
    refine TL.done ?_
    refine NX.seq ?_
    refine WC.ret' ?_
    refine NX.then_r ?_
    obtain rfl := Option.some.inj hF
    exact NX.end (rs := [.tmp 4]) (vs := [.int .i64 (-1)]) rfl ⟨rfl, trivial⟩ ⟨_, rfl, rfl, he0⟩
  · intro hc4
    replace hF := bif_f hc4 hF
    refine WC.skip' ?_
    refine NX.seq ?_
    refine WC.seq ?_
    refine WC.region ?_
    refine TL.yld rfl rfl (yld_move rfl rfl) ?_
    refine TL.yld rfl rfl (yld_assign rfl rfl) ?_
    refine TL.done ?_
    refine NX.seq ?_
    refine WC.ret' ?_
    obtain rfl := Option.some.inj hF
    exact NX.end (rs := [.tmp 4]) (vs := [.int .i64 (IntKind.wrap IntKind.i64 (a1_left - ((a0_a.length : Int))))]) rfl ⟨rfl, trivial⟩ ⟨_, rfl, rfl, he0⟩

-- loop.example/g00861/spec.WorstCheck
def F14_L1 (a0_list : List S_Check) (k0 : Int → Int → Option Int) : Nat → Int → Int → Option Int
  | 0 => fun _ _ => none
  | m + 1 => fun i5 i6 => (bif decide (i6 < (a0_list.length : Int)) then (Option.bind (bif decide (i5 < 0) then (some true) else (Option.bind (getI a0_list i6) fun x8 => (Option.bind (getI a0_list i5) fun x15 => (some (decide (x8.Slack < x15.Slack)))))) fun c8 => (bif c8 then (F14_L1 a0_list k0 m i6 (IntKind.wrap IntKind.i64 (i6 + 1))) else (F14_L1 a0_list k0 m i5 (IntKind.wrap IntKind.i64 (i6 + 1))))) else (k0 i5 i6))
theorem F14_L1_z (a0_list : List S_Check) (k0 : Int → Int → Option Int) (i5 : Int) (i6 : Int) : F14_L1 a0_list k0 0 i5 i6 = none := rfl
theorem F14_L1_s (m : Nat) (a0_list : List S_Check) (k0 : Int → Int → Option Int) (i5 : Int) (i6 : Int) : F14_L1 a0_list k0 (m + 1) i5 i6 = (bif decide (i6 < (a0_list.length : Int)) then (Option.bind (bif decide (i5 < 0) then (some true) else (Option.bind (getI a0_list i6) fun x8 => (Option.bind (getI a0_list i5) fun x15 => (some (decide (x8.Slack < x15.Slack)))))) fun c8 => (bif c8 then (F14_L1 a0_list k0 m i6 (IntKind.wrap IntKind.i64 (i6 + 1))) else (F14_L1 a0_list k0 m i5 (IntKind.wrap IntKind.i64 (i6 + 1))))) else (k0 i5 i6)) := rfl

def F14 (n : Nat) (a0_list : List S_Check) : Option Int := (F14_L1 a0_list (fun i5 i6 => (some i5)) n (-1) 0)
theorem W14 {n : Nat} {a0_list : List S_Check} {r : Int} {w : World} {v1 : Value} (hF : F14 n a0_list = some r) (ha2 : slRep C_Check w (Iv 0 w.heap.size) a0_list v1) :
    Calls Try.prog 14 [v1].toArray w (Ret fun u w2 => u = .int .i64 r ∧ Ext w w2) := by
  refine calls_of Try.func14 rfl Try.ntmps14 ?_
  have he0 : Ext w w := Ext.refl w
  unfold F14 at hF
  refine WC.seq ?_
  refine WC.region ?_
  refine TL.yld rfl rfl (yld_assign rfl rfl) ?_
  refine TL.done ?_
  refine NX.seq ?_
  refine WC.seq ?_
  refine WC.region ?_
  refine TL.yld rfl rfl (yld_assign rfl rfl) ?_
  refine TL.done ?_
  refine NX.seq ?_
  refine WC.seq ?_
  refine WC.seq ?_
  refine WC.region ?_
  refine TL.yld rfl rfl (yld_assign rfl rfl) ?_
  refine TL.done ?_
  refine NX.seq ?_
  refine WC.block ?_
  refine WC.loop (fun m a wl => ∃ (i5 : Int) (i6 : Int), Kn 28 [(0, v1), (3, .int .i64 i5), (4, .int .i64 i6)] a ∧ Ext w wl ∧ w.heap.size ≤ wl.heap.size ∧ F14_L1 a0_list (fun i5 i6 => (some i5)) m i5 i6 = some r) n ?_ ?_
  · intro a hK; exact ⟨(-1), 0, hK.weaken ⟨rfl, rfl, rfl, trivial⟩, he0, Nat.le_refl _, hF⟩
  · rintro m a w3 ⟨i5, i6, hK, he4, hz7, hF⟩
    revert hK; revert a; refine (?_ : WC _ _ _ _ _ _)
    cases m with
    | zero => rw [F14_L1_z] at hF; cases hF
    | succ m =>
      rw [F14_L1_s] at hF
      refine WC.seq ?_
      refine WC.seq ?_
      refine WC.region ?_
      refine TL.yld rfl rfl (yld_move rfl rfl) ?_
      refine TL.yld rfl rfl (yld_move rfl rfl) ?_
      refine TL.yld rfl rfl (ye_len (c := C_Check) rfl Try.underlying25 rfl (slRep.old ha2 he4 (Nat.le_refl _))) ?_
      refine TL.yld rfl rfl (yld_lss rfl rfl rfl) ?_
      refine TL.done ?_
      refine NX.seq ?_
      refine WC.cond rfl ?_ ?_
      · intro hc8
        replace hF := bif_t hc8 hF
        refine WC.skip' ?_
        refine NX.seq ?_
        refine WC.seq ?_
        refine WC.block ?_
        refine WC.seq ?_
        refine WC.quiet Try.hm (by kernel_rfl) ?_
        refine QL.yld rfl rfl (Yld.qui (yld_move rfl rfl)) ?_
        refine QL.yld rfl rfl (Yld.qui (yld_lss rfl rfl rfl)) ?_
        refine QL.yld rfl rfl (Yld.qui (yld_move rfl rfl)) ?_
        obtain ⟨c9, hb10, hF⟩ := bsome hF
        refine QL.cut 12 [(0, v1), (3, .int .i64 i5), (4, .int .i64 i6), (25, .bool c9)] ?_ ?_
        · rcases Bool.eq_false_or_eq_true (decide (i5 < 0)) with hg | hg
          ·
            rw [hg] at hb10; simp only [cond_true, cond_false] at hb10
            refine QL.gn (j := 2) (t := 13) rfl rfl rfl hg rfl rfl rfl ?_
            refine QL.gn (j := 2) (t := 13) rfl rfl rfl hg rfl rfl rfl ?_
            refine QL.gn (j := 2) (t := 13) rfl rfl rfl hg rfl rfl rfl ?_
            refine QL.gn (j := 2) (t := 13) rfl rfl rfl hg rfl rfl rfl ?_
            refine QL.gn (j := 2) (t := 13) rfl rfl rfl hg rfl rfl rfl ?_
            refine QL.gn (j := 2) (t := 13) rfl rfl rfl hg rfl rfl rfl ?_
            refine QL.gn (j := 2) (t := 13) rfl rfl rfl hg rfl rfl rfl ?_
            refine QL.gn (j := 2) (t := 13) rfl rfl rfl hg rfl rfl rfl ?_
            refine QL.gn (j := 2) (t := 13) rfl rfl rfl hg rfl rfl rfl ?_
            refine QL.gn (j := 2) (t := 13) rfl rfl rfl hg rfl rfl rfl ?_
            refine QL.gn (j := 2) (t := 13) rfl rfl rfl hg rfl rfl rfl ?_
            obtain rfl := Option.some.inj hb10
            refine QL.yld rfl rfl (Yld.qui (yld_pick_t rfl rfl hg rfl)) ?_
            exact QL.nil fun a h => h.weaken ⟨rfl, rfl, rfl, rfl, trivial⟩
          ·
            rw [hg] at hb10; simp only [cond_true, cond_false] at hb10
            replace hF := hb10
            refine QL.gy (j := 2) (t := 13) rfl rfl rfl hg rfl (Yld.qui (yld_move rfl rfl)) ?_
            refine QL.gy (j := 2) (t := 13) rfl rfl rfl hg rfl (Yld.qui (yld_move rfl rfl)) ?_
            obtain ⟨x11, hy12, hF⟩ := bsome hF
            refine QL.yeg (j := 2) (t := 13) rfl rfl rfl hg rfl (ye_index (c := C_Check) rfl Try.underlying25 cn_54 rfl rfl (slRep.old ha2 he4 (Nat.le_refl _)) hy12) ?_
            rintro _ ⟨b13, o14, us15, rfl, -, hr16, hcl17⟩
            obtain rfl := C_Check_open hr16
            refine QL.gy (j := 2) (t := 13) rfl rfl rfl hg rfl (Yld.qui (yld_fieldAddr rfl fo_54_3 rfl)) ?_
            refine QL.gy (j := 2) (t := 13) rfl rfl rfl hg rfl (Yld.qui (yld_load1 3 rfl ag_2 rfl hcl17 rfl rfl)) ?_
            refine QL.gy (j := 2) (t := 13) rfl rfl rfl hg rfl (Yld.qui (yld_move rfl rfl)) ?_
            refine QL.gy (j := 2) (t := 13) rfl rfl rfl hg rfl (Yld.qui (yld_move rfl rfl)) ?_
            obtain ⟨x18, hy19, hF⟩ := bsome hF
            refine QL.yeg (j := 2) (t := 13) rfl rfl rfl hg rfl (ye_index (c := C_Check) rfl Try.underlying25 cn_54 rfl rfl (slRep.old ha2 he4 (Nat.le_refl _)) hy19) ?_
            rintro _ ⟨b20, o21, us22, rfl, -, hr23, hcl24⟩
            obtain rfl := C_Check_open hr23
            refine QL.gy (j := 2) (t := 13) rfl rfl rfl hg rfl (Yld.qui (yld_fieldAddr rfl fo_54_3 rfl)) ?_
            refine QL.gy (j := 2) (t := 13) rfl rfl rfl hg rfl (Yld.qui (yld_load1 3 rfl ag_2 rfl hcl24 rfl rfl)) ?_
            refine QL.gy (j := 2) (t := 13) rfl rfl rfl hg rfl (Yld.qui (yld_lss rfl rfl rfl)) ?_
            obtain rfl := Option.some.inj hF
            refine QL.yld rfl rfl (Yld.qui (yld_pick_f rfl rfl hg rfl)) ?_
            exact QL.nil fun a h => h.weaken ⟨rfl, rfl, rfl, rfl, trivial⟩
        refine QL.done fun w25 hx26 => ?_
        have he27 : Ext w w25 := Ext.trans he4 hx26
        have hz28 := (hx26).size
        refine NX.seq ?_
        refine WC.cond rfl ?_ ?_
        · intro hc29
          replace hF := bif_t hc29 hF
          refine WC.region ?_
          refine TL.yld rfl rfl (yld_move rfl rfl) ?_
          refine TL.yld rfl rfl (yld_assign rfl rfl) ?_
          refine TL.done ?_
          refine NX.blk_n ?_
          refine NX.seq ?_
          refine WC.region ?_
          refine TL.yld rfl rfl (yld_move rfl rfl) ?_
          refine TL.yld rfl rfl (yld_add rfl rfl rfl) ?_
          refine TL.yld rfl rfl (yld_assign rfl rfl) ?_
          refine TL.done ?_
          refine NX.then_n ?_
          intro a hK; exact ⟨m, Nat.lt_succ_self m, i6, (IntKind.wrap IntKind.i64 (i6 + 1)), hK.weaken ⟨rfl, rfl, rfl, trivial⟩, he27, (by omega), hF⟩
        · intro hc30
          replace hF := bif_f hc30 hF
          refine WC.skip' ?_
          refine NX.blk_n ?_
          refine NX.seq ?_
          refine WC.region ?_
          refine TL.yld rfl rfl (yld_move rfl rfl) ?_
          refine TL.yld rfl rfl (yld_add rfl rfl rfl) ?_
          refine TL.yld rfl rfl (yld_assign rfl rfl) ?_
          refine TL.done ?_
          refine NX.then_n ?_
          intro a hK; exact ⟨m, Nat.lt_succ_self m, i5, (IntKind.wrap IntKind.i64 (i6 + 1)), hK.weaken ⟨rfl, rfl, rfl, trivial⟩, he27, (by omega), hF⟩
      · intro hc31
        replace hF := bif_f hc31 hF
        refine WC.exit' ?_
        refine NX.then_e ?_
        refine NX.then_e ?_
        refine NX.blk_hit ?_
        refine NX.seq ?_
        refine WC.seq ?_
        refine WC.region ?_
        refine TL.yld rfl rfl (yld_move rfl rfl) ?_
        refine TL.yld rfl rfl (yld_assign rfl rfl) ?_
        refine TL.done ?_
        refine NX.seq ?_
        refine WC.ret' ?_
        obtain rfl := Option.some.inj hF
        exact NX.end (rs := [.tmp 2]) (vs := [.int .i64 i5]) rfl ⟨rfl, trivial⟩ ⟨_, rfl, rfl, he4⟩

-- loop.example/g00861/laws.toCheck
def F53 (n : Nat) (a0_a : S_Check) : Option S_Check := (some a0_a)
theorem W53 {n : Nat} {a0_a : S_Check} {r : S_Check} {w : World} (hF : F53 n a0_a = some r) :
    Calls Try.prog 53 [.agg #[.int .i64 a0_a.Instance, .int .i64 a0_a.Arc, .int .i64 a0_a.Transition, .int .i64 a0_a.Slack]].toArray w (Ret fun u w2 => (∃ us, u = .agg us.toArray ∧ C_Check.rep w2 (Iv w.heap.size w2.heap.size) r us) ∧ Ext w w2) := by
  refine calls_of Try.func53 rfl Try.ntmps53 ?_
  have he0 : Ext w w := Ext.refl w
  unfold F53 at hF
  refine WC.seq ?_
  refine WC.region ?_
  refine TL.eff rfl rfl (eff_box rfl rfl) ?_
  rintro _ w2 ⟨b1, rfl, hn3⟩
  obtain ⟨hn3e, hn3s, hn3x, hb4⟩ := hn3
  have hb4 : Box w2 b1 [.int .i64 a0_a.Instance, .int .i64 a0_a.Arc, .int .i64 a0_a.Transition, .int .i64 a0_a.Slack] 71 := hb4
  have he6 : Ext w w2 := Ext.trans he0 hn3x
  have hz7 := (hn3x).size
  have hlo5 : w.heap.size ≤ b1 := by rw [hn3e]; exact (he0).size
  refine TL.eff rfl rfl (eff_alloc rfl zn_54) ?_
  rintro _ w9 ⟨b8, rfl, hn10⟩
  obtain ⟨hn10e, hn10s, hn10x, hb11⟩ := hn10
  have hb11 : Box w9 b8 [.int .i64 0, .int .i64 0, .int .i64 0, .int .i64 0] 54 := hb11
  have he13 : Ext w w9 := Ext.trans he6 hn10x
  have hb4 := Box.ext hb4 hn10x
  have hz14 := (hn10x).size
  have hlo12 : w.heap.size ≤ b8 := by rw [hn10e]; exact (he6).size
  refine TL.done ?_
  refine NX.seq ?_
  refine WC.seq ?_
  refine WC.region ?_
  refine TL.eff rfl rfl (eff_alloc rfl zn_54) ?_
  rintro _ w16 ⟨b15, rfl, hn17⟩
  obtain ⟨hn17e, hn17s, hn17x, hb18⟩ := hn17
  have hb18 : Box w16 b15 [.int .i64 0, .int .i64 0, .int .i64 0, .int .i64 0] 54 := hb18
  have he20 : Ext w w16 := Ext.trans he13 hn17x
  have hb4 := Box.ext hb4 hn17x
  have hb11 := Box.ext hb11 hn17x
  have hz21 := (hn17x).size
  have hlo19 : w.heap.size ≤ b15 := by rw [hn17e]; exact (he13).size
  refine TL.done ?_
  refine NX.seq ?_
  refine WC.seq ?_
  refine WC.region ?_
  refine TL.yld rfl rfl (yld_fieldAddr rfl fo_71_0 rfl) ?_
  refine TL.yld rfl rfl (yld_load1 0 rfl ag_2 rfl (Box.cells hb4) rfl rfl) ?_
  refine TL.yld rfl rfl (yld_fieldAddr rfl fo_54_0 rfl) ?_
  refine TL.eff rfl rfl (eff_store rfl rfl rfl hb18 cn_2 rfl rfl) ?_
  rintro _ w22 ⟨hu23, hb24⟩
  have he25 : Ext w w22 := Below.trans he20 (Upd.below hu23 hlo19)
  have hb4 := Box.upd hb4 hu23 (by omega)
  have hb11 := Box.upd hb11 hu23 (by omega)
  have hz26 := (hu23).size
  have hb18 : Box w22 b15 [.int .i64 a0_a.Instance, .int .i64 0, .int .i64 0, .int .i64 0] 54 := hb24
  refine TL.done ?_
  refine NX.seq ?_
  refine WC.seq ?_
  refine WC.region ?_
  refine TL.yld rfl rfl (yld_fieldAddr rfl fo_71_1 rfl) ?_
  refine TL.yld rfl rfl (yld_load1 1 rfl ag_2 rfl (Box.cells hb4) rfl rfl) ?_
  refine TL.yld rfl rfl (yld_fieldAddr rfl fo_54_1 rfl) ?_
  refine TL.eff rfl rfl (eff_store rfl rfl rfl hb18 cn_2 rfl rfl) ?_
  rintro _ w27 ⟨hu28, hb29⟩
  have he30 : Ext w w27 := Below.trans he25 (Upd.below hu28 hlo19)
  have hb4 := Box.upd hb4 hu28 (by omega)
  have hb11 := Box.upd hb11 hu28 (by omega)
  have hz31 := (hu28).size
  have hb18 : Box w27 b15 [.int .i64 a0_a.Instance, .int .i64 a0_a.Arc, .int .i64 0, .int .i64 0] 54 := hb29
  refine TL.done ?_
  refine NX.seq ?_
  refine WC.seq ?_
  refine WC.region ?_
  refine TL.yld rfl rfl (yld_fieldAddr rfl fo_71_2 rfl) ?_
  refine TL.yld rfl rfl (yld_load1 2 rfl ag_2 rfl (Box.cells hb4) rfl rfl) ?_
  refine TL.yld rfl rfl (yld_fieldAddr rfl fo_54_2 rfl) ?_
  refine TL.eff rfl rfl (eff_store rfl rfl rfl hb18 cn_2 rfl rfl) ?_
  rintro _ w32 ⟨hu33, hb34⟩
  have he35 : Ext w w32 := Below.trans he30 (Upd.below hu33 hlo19)
  have hb4 := Box.upd hb4 hu33 (by omega)
  have hb11 := Box.upd hb11 hu33 (by omega)
  have hz36 := (hu33).size
  have hb18 : Box w32 b15 [.int .i64 a0_a.Instance, .int .i64 a0_a.Arc, .int .i64 a0_a.Transition, .int .i64 0] 54 := hb34
  refine TL.done ?_
  refine NX.seq ?_
  refine WC.seq ?_
  refine WC.region ?_
  refine TL.yld rfl rfl (yld_fieldAddr rfl fo_71_3 rfl) ?_
  refine TL.yld rfl rfl (yld_load1 3 rfl ag_2 rfl (Box.cells hb4) rfl rfl) ?_
  refine TL.yld rfl rfl (yld_fieldAddr rfl fo_54_3 rfl) ?_
  refine TL.eff rfl rfl (eff_store rfl rfl rfl hb18 cn_2 rfl rfl) ?_
  rintro _ w37 ⟨hu38, hb39⟩
  have he40 : Ext w w37 := Below.trans he35 (Upd.below hu38 hlo19)
  have hb4 := Box.upd hb4 hu38 (by omega)
  have hb11 := Box.upd hb11 hu38 (by omega)
  have hz41 := (hu38).size
  have hb18 : Box w37 b15 [.int .i64 a0_a.Instance, .int .i64 a0_a.Arc, .int .i64 a0_a.Transition, .int .i64 a0_a.Slack] 54 := hb39
  refine TL.done ?_
  refine NX.seq ?_
  refine WC.seq ?_
  refine WC.region ?_
  refine TL.yld rfl rfl (yld_loadN (us := [.int .i64 a0_a.Instance, .int .i64 a0_a.Arc, .int .i64 a0_a.Transition, .int .i64 a0_a.Slack]) rfl ag_54 rfl (Box.cells hb18) cn_54) ?_
  refine TL.eff rfl rfl (eff_store rfl rfl rfl hb11 cn_54 rfl rfl) ?_
  rintro _ w42 ⟨hu43, hb44⟩
  have he45 : Ext w w42 := Below.trans he40 (Upd.below hu43 hlo12)
  have hb4 := Box.upd hb4 hu43 (by omega)
  have hb18 := Box.upd hb18 hu43 (by omega)
  have hz46 := (hu43).size
  have hb11 : Box w42 b8 [.int .i64 a0_a.Instance, .int .i64 a0_a.Arc, .int .i64 a0_a.Transition, .int .i64 a0_a.Slack] 54 := hb44
  refine TL.done ?_
  refine NX.seq ?_
  refine WC.ret' ?_
  obtain rfl := Option.some.inj hF
  exact NX.end (rs := [.cell 2 54]) (vs := [.agg #[.int .i64 a0_a.Instance, .int .i64 a0_a.Arc, .int .i64 a0_a.Transition, .int .i64 a0_a.Slack]]) rfl ⟨⟨b8, rfl, box_load ag_54 cn_54 hb11⟩, trivial⟩ ⟨_, rfl, ⟨_, rfl, (C_Check_mk)⟩, he45⟩

-- loop.example/g00861/laws.toCheckS
def F15_L1 (n : Nat) (a0_a : List S_Check) (k0 : Int → (List S_Check) → Option (List S_Check)) : Nat → Int → (List S_Check) → Option (List S_Check)
  | 0 => fun _ _ => none
  | m + 1 => fun i20 l21 => (bif decide (i20 < (a0_a.length : Int)) then (Option.bind (getI a0_a i20) fun x24 => (Option.bind (F53 n x24) fun r31 => (Option.bind (getI l21 i20) fun x40 => (F15_L1 n a0_a k0 m (IntKind.wrap IntKind.i64 (i20 + 1)) ((l21.set (i20).toNat r31)))))) else (k0 i20 l21))
theorem F15_L1_z (n : Nat) (a0_a : List S_Check) (k0 : Int → (List S_Check) → Option (List S_Check)) (i20 : Int) (l21 : List S_Check) : F15_L1 n a0_a k0 0 i20 l21 = none := rfl
theorem F15_L1_s (m : Nat) (n : Nat) (a0_a : List S_Check) (k0 : Int → (List S_Check) → Option (List S_Check)) (i20 : Int) (l21 : List S_Check) : F15_L1 n a0_a k0 (m + 1) i20 l21 = (bif decide (i20 < (a0_a.length : Int)) then (Option.bind (getI a0_a i20) fun x24 => (Option.bind (F53 n x24) fun r31 => (Option.bind (getI l21 i20) fun x40 => (F15_L1 n a0_a k0 m (IntKind.wrap IntKind.i64 (i20 + 1)) ((l21.set (i20).toNat r31)))))) else (k0 i20 l21)) := rfl

def F15 (n : Nat) (a0_a : List S_Check) : Option (List S_Check) := (Option.bind (mkN ((a0_a.length : Int)) 32) fun n3 => (F15_L1 n a0_a (fun i20 l21 => (some l21)) n 0 (List.replicate n3 ((S_Check.mk 0 0 0 0)))))
theorem W15 {n : Nat} {a0_a : List S_Check} {r : List S_Check} {w : World} {v1 : Value} (hF : F15 n a0_a = some r) (ha2 : slRep C_Check w (Iv 0 w.heap.size) a0_a v1) :
    Calls Try.prog 15 [v1].toArray w (Ret fun u w2 => slRep C_Check w2 (Iv w.heap.size w2.heap.size) r u ∧ Ext w w2) := by
  refine calls_of Try.func15 rfl Try.ntmps15 ?_
  have he0 : Ext w w := Ext.refl w
  unfold F15 at hF
  refine WC.seq ?_
  refine WC.region ?_
  refine TL.yld rfl rfl (yld_assign rfl rfl) ?_
  refine TL.done ?_
  refine NX.seq ?_
  refine WC.seq ?_
  refine WC.region ?_
  refine TL.yld rfl rfl (yld_move rfl rfl) ?_
  refine TL.yld rfl rfl (ye_len (c := C_Check) rfl Try.underlying22 rfl (slRep.old ha2 he0 (Nat.le_refl _))) ?_
  obtain ⟨n3, hk4, hF⟩ := bsome hF
  refine TL.eff rfl rfl (eff_make (c := C_Check) (z := (S_Check.mk 0 0 0 0)) rfl Try.underlying25 in_54 rfl rfl rfl hk4 rfl rfl (fun _ => C_Check_mk)) ?_
  rintro v5 w6 ⟨g7, hv8, hg9, hz10, hx11, hs12⟩
  have he13 : Ext w w6 := Ext.trans he0 hx11
  have hz14 := (hx11).size
  have hlo15 : w.heap.size ≤ g7 := by rw [hg9]; exact (he0).size
  have hbd16 := bd_of hv8
  clear hv8
  refine TL.yld rfl rfl (yld_assign rfl rfl) ?_
  refine TL.done ?_
  refine NX.seq ?_
  refine WC.seq ?_
  refine WC.seq ?_
  refine WC.region ?_
  refine TL.yld rfl rfl (yld_assign rfl rfl) ?_
  refine TL.done ?_
  refine NX.seq ?_
  refine WC.block ?_
  refine WC.loop (fun m a wl => ∃ (i20 : Int) (l21 : List S_Check), Kn 23 [(0, v1), (3, v5), (4, .int .i64 i20)] a ∧ Ext w wl ∧ w6.heap.size ≤ wl.heap.size ∧ ownR C_Check wl (g7) (Iv 0 0) 54 l21 v5 ∧ F15_L1 n a0_a (fun i20 l21 => (some l21)) m i20 l21 = some r) n ?_ ?_
  · intro a hK; exact ⟨0, (List.replicate n3 ((S_Check.mk 0 0 0 0))), hK.weaken ⟨rfl, rfl, rfl, trivial⟩, he13, Nat.le_refl _, hs12, hF⟩
  · rintro m a w18 ⟨i20, l21, hK, he19, hz23, hs22, hF⟩
    revert hK; revert a; refine (?_ : WC _ _ _ _ _ _)
    cases m with
    | zero => rw [F15_L1_z] at hF; cases hF
    | succ m =>
      rw [F15_L1_s] at hF
      refine WC.seq ?_
      refine WC.seq ?_
      refine WC.region ?_
      refine TL.yld rfl rfl (yld_move rfl rfl) ?_
      refine TL.yld rfl rfl (yld_move rfl rfl) ?_
      refine TL.yld rfl rfl (ye_len (c := C_Check) rfl Try.underlying22 rfl (slRep.old ha2 he19 (Nat.le_refl _))) ?_
      refine TL.yld rfl rfl (yld_lss rfl rfl rfl) ?_
      refine TL.done ?_
      refine NX.seq ?_
      refine WC.cond rfl ?_ ?_
      · intro hc24
        replace hF := bif_t hc24 hF
        refine WC.skip' ?_
        refine NX.seq ?_
        refine WC.seq ?_
        refine WC.block ?_
        refine WC.region ?_
        refine TL.yld rfl rfl (yld_move rfl rfl) ?_
        refine TL.yld rfl rfl (yld_move rfl rfl) ?_
        refine TL.yld rfl rfl (yld_move rfl rfl) ?_
        refine TL.yld rfl rfl (yld_move rfl rfl) ?_
        obtain ⟨x25, hy26, hF⟩ := bsome hF
        refine TL.ye rfl rfl (ye_index (c := C_Check) rfl Try.underlying22 cn_71 rfl rfl (slRep.old ha2 he19 (Nat.le_refl _)) hy26) ?_
        rintro _ ⟨b27, o28, us29, rfl, -, hr30, hcl31⟩
        obtain rfl := C_Check_open hr30
        refine TL.yld rfl rfl (yld_loadN (us := [.int .i64 x25.Instance, .int .i64 x25.Arc, .int .i64 x25.Transition, .int .i64 x25.Slack]) rfl ag_71 rfl hcl31 cn_71) ?_
        obtain ⟨r32, hr33, hF⟩ := bsome hF
        refine TL.eff rfl rfl (eff_call rfl gf_53 rfl (W53 hr33)) ?_
        rintro _ w34 ⟨⟨us37, rfl, hr38⟩, hx35⟩
        have he39 : Ext w w34 := Ext.trans he19 hx35
        have hs22 := ownR.ext hs22 hx35
        have hz40 := (hx35).size
        obtain rfl := C_Check_open hr38
        obtain ⟨x41, hy42, hF⟩ := bsome hF
        refine TL.ye rfl rfl (ye_index_own (c := C_Check) rfl Try.underlying25 cn_54 rfl rfl hs22 hy42) ?_
        rintro _ ⟨g43, us45, rfl, hg44, hr46, hcl47⟩
        have hr46r := hr46
        obtain rfl := C_Check_open hr46
        refine TL.eff rfl rfl (eff_store_own (c := C_Check) (us' := [.int .i64 r32.Instance, .int .i64 r32.Arc, .int .i64 r32.Transition, .int .i64 r32.Slack]) (y' := r32) 0 _ rfl rfl rfl hs22 hg44 hy42 rfl cn_54 rfl hr46r hcl47 rfl rfl C_Check_mk (fun k h => absurd h.2 (Nat.not_lt_zero k))) ?_
        rintro _ w48 ⟨hu49, hs50⟩
        have he51 : Ext w w48 := Below.trans he39 (Upd.below hu49 (by have := hbd16 _ hg44; omega))
        have hz52 := (hu49).size
        refine TL.done ?_
        refine NX.blk_n ?_
        refine NX.seq ?_
        refine WC.region ?_
        refine TL.yld rfl rfl (yld_move rfl rfl) ?_
        refine TL.yld rfl rfl (yld_add rfl rfl rfl) ?_
        refine TL.yld rfl rfl (yld_assign rfl rfl) ?_
        refine TL.done ?_
        refine NX.then_n ?_
        intro a hK; exact ⟨m, Nat.lt_succ_self m, (IntKind.wrap IntKind.i64 (i20 + 1)), ((l21.set (i20).toNat r32)), hK.weaken ⟨rfl, rfl, rfl, trivial⟩, he51, (by omega), hs50, hF⟩
      · intro hc53
        replace hF := bif_f hc53 hF
        refine WC.exit' ?_
        refine NX.then_e ?_
        refine NX.then_e ?_
        refine NX.blk_hit ?_
        refine NX.seq ?_
        refine WC.seq ?_
        refine WC.region ?_
        refine TL.yld rfl rfl (yld_move rfl rfl) ?_
        refine TL.yld rfl rfl (yld_assign rfl rfl) ?_
        refine TL.done ?_
        refine NX.seq ?_
        refine WC.ret' ?_
        obtain rfl := Option.some.inj hF
        exact NX.end (rs := [.tmp 2]) (vs := [v5]) rfl ⟨rfl, trivial⟩ ⟨_, rfl, (ownR.slf hs22 (by omega) (Nat.le_refl _)), he19⟩

-- loop.example/g00861/impl.WorstCheck
def F16_L1 (a0_list : List S_Check) (k0 : Int → Int → Option Int) : Nat → Int → Int → Option Int
  | 0 => fun _ _ => none
  | m + 1 => fun i5 i6 => (bif decide (i6 < (a0_list.length : Int)) then (Option.bind (getI a0_list i6) fun x8 => (Option.bind (bif decide (i5 < 0) then (some true) else (Option.bind (getI a0_list i5) fun x27 => (some (decide (x8.Slack < x27.Slack))))) fun c27 => (bif c27 then (F16_L1 a0_list k0 m i6 (IntKind.wrap IntKind.i64 (i6 + 1))) else (F16_L1 a0_list k0 m i5 (IntKind.wrap IntKind.i64 (i6 + 1)))))) else (k0 i5 i6))
theorem F16_L1_z (a0_list : List S_Check) (k0 : Int → Int → Option Int) (i5 : Int) (i6 : Int) : F16_L1 a0_list k0 0 i5 i6 = none := rfl
theorem F16_L1_s (m : Nat) (a0_list : List S_Check) (k0 : Int → Int → Option Int) (i5 : Int) (i6 : Int) : F16_L1 a0_list k0 (m + 1) i5 i6 = (bif decide (i6 < (a0_list.length : Int)) then (Option.bind (getI a0_list i6) fun x8 => (Option.bind (bif decide (i5 < 0) then (some true) else (Option.bind (getI a0_list i5) fun x27 => (some (decide (x8.Slack < x27.Slack))))) fun c27 => (bif c27 then (F16_L1 a0_list k0 m i6 (IntKind.wrap IntKind.i64 (i6 + 1))) else (F16_L1 a0_list k0 m i5 (IntKind.wrap IntKind.i64 (i6 + 1)))))) else (k0 i5 i6)) := rfl

def F16 (n : Nat) (a0_list : List S_Check) : Option Int := (F16_L1 a0_list (fun i5 i6 => (some i5)) n (-1) 0)
theorem W16 {n : Nat} {a0_list : List S_Check} {r : Int} {w : World} {v1 : Value} (hF : F16 n a0_list = some r) (ha2 : slRep C_Check w (Iv 0 w.heap.size) a0_list v1) :
    Calls Try.prog 16 [v1].toArray w (Ret fun u w2 => u = .int .i64 r ∧ Ext w w2) := by
  refine calls_of Try.func16 rfl Try.ntmps16 ?_
  have he0 : Ext w w := Ext.refl w
  unfold F16 at hF
  refine WC.seq ?_
  refine WC.region ?_
  refine TL.yld rfl rfl (yld_assign rfl rfl) ?_
  refine TL.done ?_
  refine NX.seq ?_
  refine WC.seq ?_
  refine WC.region ?_
  refine TL.yld rfl rfl (yld_assign rfl rfl) ?_
  refine TL.done ?_
  refine NX.seq ?_
  refine WC.seq ?_
  refine WC.seq ?_
  refine WC.region ?_
  refine TL.yld rfl rfl (yld_move rfl rfl) ?_
  refine TL.yld rfl rfl (ye_len (c := C_Check) rfl Try.underlying25 rfl (slRep.old ha2 he0 (Nat.le_refl _))) ?_
  refine TL.yld rfl rfl (yld_move rfl rfl) ?_
  refine TL.done ?_
  refine NX.seq ?_
  refine WC.block ?_
  refine WC.loop (fun m a wl => ∃ (i5 : Int) (i6 : Int), Kn 28 [(0, v1), (3, .int .i64 i5), (6, v1), (7, .int .i64 ((a0_list.length : Int))), (8, .int .i64 i6)] a ∧ Ext w wl ∧ w.heap.size ≤ wl.heap.size ∧ F16_L1 a0_list (fun i5 i6 => (some i5)) m i5 i6 = some r) n ?_ ?_
  · intro a hK; exact ⟨(-1), 0, hK.weaken ⟨rfl, rfl, rfl, rfl, rfl, trivial⟩, he0, Nat.le_refl _, hF⟩
  · rintro m a w3 ⟨i5, i6, hK, he4, hz7, hF⟩
    revert hK; revert a; refine (?_ : WC _ _ _ _ _ _)
    cases m with
    | zero => rw [F16_L1_z] at hF; cases hF
    | succ m =>
      rw [F16_L1_s] at hF
      refine WC.seq ?_
      refine WC.region ?_
      refine TL.yld rfl rfl (yld_lss rfl rfl rfl) ?_
      refine TL.done ?_
      refine NX.seq ?_
      refine WC.seq ?_
      refine WC.cond rfl ?_ ?_
      · intro hc8
        replace hF := bif_t hc8 hF
        refine WC.skip' ?_
        refine NX.seq ?_
        refine WC.seq ?_
        refine WC.block ?_
        refine WC.seq ?_
        refine WC.region ?_
        refine TL.yld rfl rfl (yld_move rfl rfl) ?_
        obtain ⟨x9, hy10, hF⟩ := bsome hF
        refine TL.ye rfl rfl (ye_index (c := C_Check) rfl Try.underlying25 cn_54 rfl rfl (slRep.old ha2 he4 (Nat.le_refl _)) hy10) ?_
        rintro _ ⟨b11, o12, us13, rfl, -, hr14, hcl15⟩
        obtain rfl := C_Check_open hr14
        refine TL.yld rfl rfl (yld_loadN (us := [.int .i64 x9.Instance, .int .i64 x9.Arc, .int .i64 x9.Transition, .int .i64 x9.Slack]) rfl ag_54 rfl hcl15 cn_54) ?_
        refine TL.eff rfl rfl (eff_alloc rfl zn_54) ?_
        rintro _ w17 ⟨b16, rfl, hn18⟩
        obtain ⟨hn18e, hn18s, hn18x, hb19⟩ := hn18
        have hb19 : Box w17 b16 [.int .i64 0, .int .i64 0, .int .i64 0, .int .i64 0] 54 := hb19
        have he21 : Ext w w17 := Ext.trans he4 hn18x
        have hz22 := (hn18x).size
        have hlo20 : w.heap.size ≤ b16 := by rw [hn18e]; exact (he4).size
        refine TL.yld rfl rfl (yld_assign rfl rfl) ?_
        refine TL.eff rfl rfl (eff_store rfl rfl rfl hb19 cn_54 rfl rfl) ?_
        rintro _ w23 ⟨hu24, hb25⟩
        have he26 : Ext w w23 := Below.trans he21 (Upd.below hu24 hlo20)
        have hz27 := (hu24).size
        have hb19 : Box w23 b16 [.int .i64 x9.Instance, .int .i64 x9.Arc, .int .i64 x9.Transition, .int .i64 x9.Slack] 54 := hb25
        refine TL.done ?_
        refine NX.seq ?_
        refine WC.seq ?_
        refine WC.quiet Try.hm (by kernel_rfl) ?_
        refine QL.yld rfl rfl (Yld.qui (yld_move rfl rfl)) ?_
        refine QL.yld rfl rfl (Yld.qui (yld_lss rfl rfl rfl)) ?_
        refine QL.yld rfl rfl (Yld.qui (yld_move rfl rfl)) ?_
        obtain ⟨c28, hb29, hF⟩ := bsome hF
        refine QL.cut 9 [(0, v1), (3, .int .i64 i5), (4, .int .i64 i6), (6, v1), (7, .int .i64 ((a0_list.length : Int))), (8, .int .i64 i6), (24, .bool c28)] ?_ ?_
        · rcases Bool.eq_false_or_eq_true (decide (i5 < 0)) with hg | hg
          ·
            rw [hg] at hb29; simp only [cond_true, cond_false] at hb29
            refine QL.gn (j := 2) (t := 15) rfl rfl rfl hg rfl rfl rfl ?_
            refine QL.gn (j := 2) (t := 15) rfl rfl rfl hg rfl rfl rfl ?_
            refine QL.gn (j := 2) (t := 15) rfl rfl rfl hg rfl rfl rfl ?_
            refine QL.gn (j := 2) (t := 15) rfl rfl rfl hg rfl rfl rfl ?_
            refine QL.gn (j := 2) (t := 15) rfl rfl rfl hg rfl rfl rfl ?_
            refine QL.gn (j := 2) (t := 15) rfl rfl rfl hg rfl rfl rfl ?_
            refine QL.gn (j := 2) (t := 15) rfl rfl rfl hg rfl rfl rfl ?_
            refine QL.gn (j := 2) (t := 15) rfl rfl rfl hg rfl rfl rfl ?_
            obtain rfl := Option.some.inj hb29
            refine QL.yld rfl rfl (Yld.qui (yld_pick_t rfl rfl hg rfl)) ?_
            exact QL.nil fun a h => h.weaken ⟨rfl, rfl, rfl, rfl, rfl, rfl, rfl, trivial⟩
          ·
            rw [hg] at hb29; simp only [cond_true, cond_false] at hb29
            replace hF := hb29
            refine QL.gy (j := 2) (t := 15) rfl rfl rfl hg rfl (Yld.qui (yld_fieldAddr rfl fo_54_3 rfl)) ?_
            refine QL.gy (j := 2) (t := 15) rfl rfl rfl hg rfl (Yld.qui (yld_load1 3 rfl ag_2 rfl (Box.cells hb19) rfl rfl)) ?_
            refine QL.gy (j := 2) (t := 15) rfl rfl rfl hg rfl (Yld.qui (yld_move rfl rfl)) ?_
            refine QL.gy (j := 2) (t := 15) rfl rfl rfl hg rfl (Yld.qui (yld_move rfl rfl)) ?_
            obtain ⟨x30, hy31, hF⟩ := bsome hF
            refine QL.yeg (j := 2) (t := 15) rfl rfl rfl hg rfl (ye_index (c := C_Check) rfl Try.underlying25 cn_54 rfl rfl (slRep.old ha2 he26 (Nat.le_refl _)) hy31) ?_
            rintro _ ⟨b32, o33, us34, rfl, -, hr35, hcl36⟩
            obtain rfl := C_Check_open hr35
            refine QL.gy (j := 2) (t := 15) rfl rfl rfl hg rfl (Yld.qui (yld_fieldAddr rfl fo_54_3 rfl)) ?_
            refine QL.gy (j := 2) (t := 15) rfl rfl rfl hg rfl (Yld.qui (yld_load1 3 rfl ag_2 rfl hcl36 rfl rfl)) ?_
            refine QL.gy (j := 2) (t := 15) rfl rfl rfl hg rfl (Yld.qui (yld_lss rfl rfl rfl)) ?_
            obtain rfl := Option.some.inj hF
            refine QL.yld rfl rfl (Yld.qui (yld_pick_f rfl rfl hg rfl)) ?_
            exact QL.nil fun a h => h.weaken ⟨rfl, rfl, rfl, rfl, rfl, rfl, rfl, trivial⟩
        refine QL.done fun w37 hx38 => ?_
        have he39 : Ext w w37 := Ext.trans he26 hx38
        have hb19 := Box.ext hb19 hx38
        have hz40 := (hx38).size
        refine NX.seq ?_
        refine WC.cond rfl ?_ ?_
        · intro hc41
          replace hF := bif_t hc41 hF
          refine WC.region ?_
          refine TL.yld rfl rfl (yld_move rfl rfl) ?_
          refine TL.yld rfl rfl (yld_assign rfl rfl) ?_
          refine TL.done ?_
          refine NX.blk_n ?_
          refine NX.seq ?_
          refine WC.region ?_
          refine TL.yld rfl rfl (yld_add rfl rfl rfl) ?_
          refine TL.yld rfl rfl (yld_move rfl rfl) ?_
          refine TL.done ?_
          refine NX.then_n ?_
          intro a hK; exact ⟨m, Nat.lt_succ_self m, i6, (IntKind.wrap IntKind.i64 (i6 + 1)), hK.weaken ⟨rfl, rfl, rfl, rfl, rfl, trivial⟩, he39, (by omega), hF⟩
        · intro hc42
          replace hF := bif_f hc42 hF
          refine WC.skip' ?_
          refine NX.blk_n ?_
          refine NX.seq ?_
          refine WC.region ?_
          refine TL.yld rfl rfl (yld_add rfl rfl rfl) ?_
          refine TL.yld rfl rfl (yld_move rfl rfl) ?_
          refine TL.done ?_
          refine NX.then_n ?_
          intro a hK; exact ⟨m, Nat.lt_succ_self m, i5, (IntKind.wrap IntKind.i64 (i6 + 1)), hK.weaken ⟨rfl, rfl, rfl, rfl, rfl, trivial⟩, he39, (by omega), hF⟩
      · intro hc43
        replace hF := bif_f hc43 hF
        refine WC.exit' ?_
        refine NX.then_e ?_
        refine NX.then_e ?_
        refine NX.blk_hit ?_
        refine NX.seq ?_
        refine WC.seq ?_
        refine WC.region ?_
        refine TL.yld rfl rfl (yld_move rfl rfl) ?_
        refine TL.yld rfl rfl (yld_assign rfl rfl) ?_
        refine TL.done ?_
        refine NX.seq ?_
        refine WC.ret' ?_
        obtain rfl := Option.some.inj hF
        exact NX.end (rs := [.tmp 2]) (vs := [.int .i64 i5]) rfl ⟨rfl, trivial⟩ ⟨_, rfl, rfl, he4⟩

-- loop.example/g00861/laws.eqCheck
def F54 (n : Nat) (a0_a : S_Check) (a1_b : S_Check) : Option Bool := (bif (a0_a.Instance != a1_b.Instance) then (some false) else (bif (a0_a.Arc != a1_b.Arc) then (some false) else (bif (a0_a.Transition != a1_b.Transition) then (some false) else (bif (a0_a.Slack != a1_b.Slack) then (some false) else (some true)))))
theorem W54 {n : Nat} {a0_a : S_Check} {a1_b : S_Check} {r : Bool} {w : World} (hF : F54 n a0_a a1_b = some r) :
    Calls Try.prog 54 [.agg #[.int .i64 a0_a.Instance, .int .i64 a0_a.Arc, .int .i64 a0_a.Transition, .int .i64 a0_a.Slack], .agg #[.int .i64 a1_b.Instance, .int .i64 a1_b.Arc, .int .i64 a1_b.Transition, .int .i64 a1_b.Slack]].toArray w (Ret fun u w2 => u = .bool r ∧ Ext w w2) := by
  refine calls_of Try.func54 rfl Try.ntmps54 ?_
  have he0 : Ext w w := Ext.refl w
  unfold F54 at hF
  refine WC.seq ?_
  refine WC.region ?_
  refine TL.eff rfl rfl (eff_box rfl rfl) ?_
  rintro _ w2 ⟨b1, rfl, hn3⟩
  obtain ⟨hn3e, hn3s, hn3x, hb4⟩ := hn3
  have hb4 : Box w2 b1 [.int .i64 a0_a.Instance, .int .i64 a0_a.Arc, .int .i64 a0_a.Transition, .int .i64 a0_a.Slack] 54 := hb4
  have he6 : Ext w w2 := Ext.trans he0 hn3x
  have hz7 := (hn3x).size
  have hlo5 : w.heap.size ≤ b1 := by rw [hn3e]; exact (he0).size
  refine TL.eff rfl rfl (eff_box rfl rfl) ?_
  rintro _ w9 ⟨b8, rfl, hn10⟩
  obtain ⟨hn10e, hn10s, hn10x, hb11⟩ := hn10
  have hb11 : Box w9 b8 [.int .i64 a1_b.Instance, .int .i64 a1_b.Arc, .int .i64 a1_b.Transition, .int .i64 a1_b.Slack] 54 := hb11
  have he13 : Ext w w9 := Ext.trans he6 hn10x
  have hb4 := Box.ext hb4 hn10x
  have hz14 := (hn10x).size
  have hlo12 : w.heap.size ≤ b8 := by rw [hn10e]; exact (he6).size
  refine TL.yld rfl rfl (yld_assign rfl rfl) ?_
  refine TL.done ?_
  refine NX.seq ?_
  refine WC.seq ?_
  refine WC.seq ?_
  refine WC.region ?_
  refine TL.yld rfl rfl (yld_fieldAddr rfl fo_54_0 rfl) ?_
  refine TL.yld rfl rfl (yld_load1 0 rfl ag_2 rfl (Box.cells hb4) rfl rfl) ?_
  refine TL.yld rfl rfl (yld_fieldAddr rfl fo_54_0 rfl) ?_
  refine TL.yld rfl rfl (yld_load1 0 rfl ag_2 rfl (Box.cells hb11) rfl rfl) ?_
  refine TL.yld rfl rfl (yld_neq rfl rfl rfl) ?_
  refine TL.done ?_
  refine NX.seq ?_
  refine WC.cond rfl ?_ ?_
  · intro hc15
    replace hF := bif_t hc15 hF
    refine WC.seq ?_
    refine WC.region ?_
    refine TL.yld rfl rfl (yld_assign rfl rfl) ?_
    refine TL.done ?_
    refine NX.seq ?_
    refine WC.ret' ?_
    refine NX.then_r ?_
    obtain rfl := Option.some.inj hF
    exact NX.end (rs := [.tmp 4]) (vs := [.bool false]) rfl ⟨rfl, trivial⟩ ⟨_, rfl, rfl, he13⟩
  · intro hc16
    replace hF := bif_f hc16 hF
    refine WC.skip' ?_
    refine NX.seq ?_
    refine WC.seq ?_
    refine WC.seq ?_
    refine WC.region ?_
    refine TL.yld rfl rfl (yld_fieldAddr rfl fo_54_1 rfl) ?_
    refine TL.yld rfl rfl (yld_load1 1 rfl ag_2 rfl (Box.cells hb4) rfl rfl) ?_
    refine TL.yld rfl rfl (yld_fieldAddr rfl fo_54_1 rfl) ?_
    refine TL.yld rfl rfl (yld_load1 1 rfl ag_2 rfl (Box.cells hb11) rfl rfl) ?_
    refine TL.yld rfl rfl (yld_neq rfl rfl rfl) ?_
    refine TL.done ?_
    refine NX.seq ?_
    refine WC.cond rfl ?_ ?_
    · intro hc17
      replace hF := bif_t hc17 hF
      refine WC.seq ?_
      refine WC.region ?_
      refine TL.yld rfl rfl (yld_assign rfl rfl) ?_
      refine TL.done ?_
      refine NX.seq ?_
      refine WC.ret' ?_
      refine NX.then_r ?_
      obtain rfl := Option.some.inj hF
      exact NX.end (rs := [.tmp 4]) (vs := [.bool false]) rfl ⟨rfl, trivial⟩ ⟨_, rfl, rfl, he13⟩
    · intro hc18
      replace hF := bif_f hc18 hF
      refine WC.skip' ?_
      refine NX.seq ?_
      refine WC.seq ?_
      refine WC.seq ?_
      refine WC.region ?_
      refine TL.yld rfl rfl (yld_fieldAddr rfl fo_54_2 rfl) ?_
      refine TL.yld rfl rfl (yld_load1 2 rfl ag_2 rfl (Box.cells hb4) rfl rfl) ?_
      refine TL.yld rfl rfl (yld_fieldAddr rfl fo_54_2 rfl) ?_
      refine TL.yld rfl rfl (yld_load1 2 rfl ag_2 rfl (Box.cells hb11) rfl rfl) ?_
      refine TL.yld rfl rfl (yld_neq rfl rfl rfl) ?_
      refine TL.done ?_
      refine NX.seq ?_
      refine WC.cond rfl ?_ ?_
      · intro hc19
        replace hF := bif_t hc19 hF
        refine WC.seq ?_
        refine WC.region ?_
        refine TL.yld rfl rfl (yld_assign rfl rfl) ?_
        refine TL.done ?_
        refine NX.seq ?_
        refine WC.ret' ?_
        refine NX.then_r ?_
        obtain rfl := Option.some.inj hF
        exact NX.end (rs := [.tmp 4]) (vs := [.bool false]) rfl ⟨rfl, trivial⟩ ⟨_, rfl, rfl, he13⟩
      · intro hc20
        replace hF := bif_f hc20 hF
        refine WC.skip' ?_
        refine NX.seq ?_
        refine WC.seq ?_
        refine WC.seq ?_
        refine WC.region ?_
        refine TL.yld rfl rfl (yld_fieldAddr rfl fo_54_3 rfl) ?_
        refine TL.yld rfl rfl (yld_load1 3 rfl ag_2 rfl (Box.cells hb4) rfl rfl) ?_
        refine TL.yld rfl rfl (yld_fieldAddr rfl fo_54_3 rfl) ?_
        refine TL.yld rfl rfl (yld_load1 3 rfl ag_2 rfl (Box.cells hb11) rfl rfl) ?_
        refine TL.yld rfl rfl (yld_neq rfl rfl rfl) ?_
        refine TL.done ?_
        refine NX.seq ?_
        refine WC.cond rfl ?_ ?_
        · intro hc21
          replace hF := bif_t hc21 hF
          refine WC.seq ?_
          refine WC.region ?_
          refine TL.yld rfl rfl (yld_assign rfl rfl) ?_
          refine TL.done ?_
          refine NX.seq ?_
          refine WC.ret' ?_
          refine NX.then_r ?_
          obtain rfl := Option.some.inj hF
          exact NX.end (rs := [.tmp 4]) (vs := [.bool false]) rfl ⟨rfl, trivial⟩ ⟨_, rfl, rfl, he13⟩
        · intro hc22
          replace hF := bif_f hc22 hF
          refine WC.skip' ?_
          refine NX.seq ?_
          refine WC.seq ?_
          refine WC.region ?_
          refine TL.yld rfl rfl (yld_assign rfl rfl) ?_
          refine TL.done ?_
          refine NX.seq ?_
          refine WC.ret' ?_
          obtain rfl := Option.some.inj hF
          exact NX.end (rs := [.tmp 4]) (vs := [.bool true]) rfl ⟨rfl, trivial⟩ ⟨_, rfl, rfl, he13⟩

-- loop.example/g00861/laws.eqCheckS
def F17_L1 (n : Nat) (a0_a : List S_Check) (a1_b : List S_Check) (k0 : Int → Option Bool) : Nat → Int → Option Bool
  | 0 => fun _ => none
  | m + 1 => fun i9 => (bif decide (i9 < (a0_a.length : Int)) then (Option.bind (getI a0_a i9) fun x11 => (Option.bind (getI a1_b i9) fun x18 => (Option.bind (F54 n x11 x18) fun r25 => (bif (!r25) then (some false) else (F17_L1 n a0_a a1_b k0 m (IntKind.wrap IntKind.i64 (i9 + 1))))))) else (k0 i9))
theorem F17_L1_z (n : Nat) (a0_a : List S_Check) (a1_b : List S_Check) (k0 : Int → Option Bool) (i9 : Int) : F17_L1 n a0_a a1_b k0 0 i9 = none := rfl
theorem F17_L1_s (m : Nat) (n : Nat) (a0_a : List S_Check) (a1_b : List S_Check) (k0 : Int → Option Bool) (i9 : Int) : F17_L1 n a0_a a1_b k0 (m + 1) i9 = (bif decide (i9 < (a0_a.length : Int)) then (Option.bind (getI a0_a i9) fun x11 => (Option.bind (getI a1_b i9) fun x18 => (Option.bind (F54 n x11 x18) fun r25 => (bif (!r25) then (some false) else (F17_L1 n a0_a a1_b k0 m (IntKind.wrap IntKind.i64 (i9 + 1))))))) else (k0 i9)) := rfl

def F17 (n : Nat) (a0_a : List S_Check) (a1_b : List S_Check) : Option Bool := (bif (((a0_a.length : Int)) != ((a1_b.length : Int))) then (some false) else (F17_L1 n a0_a a1_b (fun i9 => (some true)) n 0))
theorem W17 {n : Nat} {a0_a : List S_Check} {a1_b : List S_Check} {r : Bool} {w : World} {v1 : Value} {v3 : Value} (hF : F17 n a0_a a1_b = some r) (ha2 : slRep C_Check w (Iv 0 w.heap.size) a0_a v1) (ha4 : slRep C_Check w (Iv 0 w.heap.size) a1_b v3) :
    Calls Try.prog 17 [v1, v3].toArray w (Ret fun u w2 => u = .bool r ∧ Ext w w2) := by
  refine calls_of Try.func17 rfl Try.ntmps17 ?_
  have he0 : Ext w w := Ext.refl w
  unfold F17 at hF
  refine WC.seq ?_
  refine WC.region ?_
  refine TL.yld rfl rfl (yld_assign rfl rfl) ?_
  refine TL.done ?_
  refine NX.seq ?_
  refine WC.seq ?_
  refine WC.seq ?_
  refine WC.region ?_
  refine TL.yld rfl rfl (yld_move rfl rfl) ?_
  refine TL.yld rfl rfl (ye_len (c := C_Check) rfl Try.underlying25 rfl (slRep.old ha2 he0 (Nat.le_refl _))) ?_
  refine TL.yld rfl rfl (yld_move rfl rfl) ?_
  refine TL.yld rfl rfl (ye_len (c := C_Check) rfl Try.underlying25 rfl (slRep.old ha4 he0 (Nat.le_refl _))) ?_
  refine TL.yld rfl rfl (yld_neq rfl rfl rfl) ?_
  refine TL.done ?_
  refine NX.seq ?_
  refine WC.cond rfl ?_ ?_
  · intro hc5
    replace hF := bif_t hc5 hF
    refine WC.seq ?_
    refine WC.region ?_
    refine TL.yld rfl rfl (yld_assign rfl rfl) ?_
    refine TL.done ?_
    refine NX.seq ?_
    refine WC.ret' ?_
    refine NX.then_r ?_
    obtain rfl := Option.some.inj hF
    exact NX.end (rs := [.tmp 4]) (vs := [.bool false]) rfl ⟨rfl, trivial⟩ ⟨_, rfl, rfl, he0⟩
  · intro hc6
    replace hF := bif_f hc6 hF
    refine WC.skip' ?_
    refine NX.seq ?_
    refine WC.seq ?_
    refine WC.seq ?_
    refine WC.region ?_
    refine TL.yld rfl rfl (yld_assign rfl rfl) ?_
    refine TL.done ?_
    refine NX.seq ?_
    refine WC.block ?_
    refine WC.loop (fun m a wl => ∃ (i9 : Int), Kn 27 [(0, v1), (1, v3), (5, .int .i64 i9)] a ∧ Ext w wl ∧ w.heap.size ≤ wl.heap.size ∧ F17_L1 n a0_a a1_b (fun i9 => (some true)) m i9 = some r) n ?_ ?_
    · intro a hK; exact ⟨0, hK.weaken ⟨rfl, rfl, rfl, trivial⟩, he0, Nat.le_refl _, hF⟩
    · rintro m a w7 ⟨i9, hK, he8, hz10, hF⟩
      revert hK; revert a; refine (?_ : WC _ _ _ _ _ _)
      cases m with
      | zero => rw [F17_L1_z] at hF; cases hF
      | succ m =>
        rw [F17_L1_s] at hF
        refine WC.seq ?_
        refine WC.seq ?_
        refine WC.region ?_
        refine TL.yld rfl rfl (yld_move rfl rfl) ?_
        refine TL.yld rfl rfl (yld_move rfl rfl) ?_
        refine TL.yld rfl rfl (ye_len (c := C_Check) rfl Try.underlying25 rfl (slRep.old ha2 he8 (Nat.le_refl _))) ?_
        refine TL.yld rfl rfl (yld_lss rfl rfl rfl) ?_
        refine TL.done ?_
        refine NX.seq ?_
        refine WC.cond rfl ?_ ?_
        · intro hc11
          replace hF := bif_t hc11 hF
          refine WC.skip' ?_
          refine NX.seq ?_
          refine WC.seq ?_
          refine WC.block ?_
          refine WC.seq ?_
          refine WC.quiet Try.hm (by kernel_rfl) ?_
          refine QL.yld rfl rfl (Yld.qui (yld_move rfl rfl)) ?_
          refine QL.yld rfl rfl (Yld.qui (yld_move rfl rfl)) ?_
          obtain ⟨x12, hy13, hF⟩ := bsome hF
          refine QL.ye rfl rfl (ye_index (c := C_Check) rfl Try.underlying25 cn_54 rfl rfl (slRep.old ha2 he8 (Nat.le_refl _)) hy13) ?_
          rintro _ ⟨b14, o15, us16, rfl, -, hr17, hcl18⟩
          obtain rfl := C_Check_open hr17
          refine QL.yld rfl rfl (Yld.qui (yld_loadN (us := [.int .i64 x12.Instance, .int .i64 x12.Arc, .int .i64 x12.Transition, .int .i64 x12.Slack]) rfl ag_54 rfl hcl18 cn_54)) ?_
          refine QL.yld rfl rfl (Yld.qui (yld_move rfl rfl)) ?_
          refine QL.yld rfl rfl (Yld.qui (yld_move rfl rfl)) ?_
          obtain ⟨x19, hy20, hF⟩ := bsome hF
          refine QL.ye rfl rfl (ye_index (c := C_Check) rfl Try.underlying25 cn_54 rfl rfl (slRep.old ha4 he8 (Nat.le_refl _)) hy20) ?_
          rintro _ ⟨b21, o22, us23, rfl, -, hr24, hcl25⟩
          obtain rfl := C_Check_open hr24
          refine QL.yld rfl rfl (Yld.qui (yld_loadN (us := [.int .i64 x19.Instance, .int .i64 x19.Arc, .int .i64 x19.Transition, .int .i64 x19.Slack]) rfl ag_54 rfl hcl25 cn_54)) ?_
          obtain ⟨r26, hr27, hF⟩ := bsome hF
          refine QL.yld rfl rfl (qui_call rfl gf_54 rfl fun w' hw' => W54 hr27) ?_
          refine QL.yld rfl rfl (Yld.qui (yld_not rfl rfl)) ?_
          refine QL.done fun w28 hx29 => ?_
          have he30 : Ext w w28 := Ext.trans he8 hx29
          have hz31 := (hx29).size
          refine NX.seq ?_
          refine WC.cond rfl ?_ ?_
          · intro hc32
            replace hF := bif_t hc32 hF
            refine WC.seq ?_
            refine WC.region ?_
            refine TL.yld rfl rfl (yld_assign rfl rfl) ?_
            refine TL.done ?_
            refine NX.seq ?_
            refine WC.ret' ?_
            refine NX.blk_r ?_
            refine NX.then_r ?_
            refine NX.then_r ?_
            refine NX.blk_r ?_
            refine NX.then_r ?_
            obtain rfl := Option.some.inj hF
            exact NX.end (rs := [.tmp 4]) (vs := [.bool false]) rfl ⟨rfl, trivial⟩ ⟨_, rfl, rfl, he30⟩
          · intro hc33
            replace hF := bif_f hc33 hF
            refine WC.skip' ?_
            refine NX.blk_n ?_
            refine NX.seq ?_
            refine WC.region ?_
            refine TL.yld rfl rfl (yld_move rfl rfl) ?_
            refine TL.yld rfl rfl (yld_add rfl rfl rfl) ?_
            refine TL.yld rfl rfl (yld_assign rfl rfl) ?_
            refine TL.done ?_
            refine NX.then_n ?_
            intro a hK; exact ⟨m, Nat.lt_succ_self m, (IntKind.wrap IntKind.i64 (i9 + 1)), hK.weaken ⟨rfl, rfl, rfl, trivial⟩, he30, (by omega), hF⟩
        · intro hc34
          replace hF := bif_f hc34 hF
          refine WC.exit' ?_
          refine NX.then_e ?_
          refine NX.then_e ?_
          refine NX.blk_hit ?_
          refine NX.seq ?_
          refine WC.seq ?_
          refine WC.region ?_
          refine TL.yld rfl rfl (yld_assign rfl rfl) ?_
          refine TL.done ?_
          refine NX.seq ?_
          refine WC.ret' ?_
          obtain rfl := Option.some.inj hF
          exact NX.end (rs := [.tmp 4]) (vs := [.bool true]) rfl ⟨rfl, trivial⟩ ⟨_, rfl, rfl, he8⟩

-- loop.example/g00861/laws.FnExactWorstCheck
def F3 (n : Nat) (a0_aList : List S_Check) : Option Bool := (Option.bind (F13 n a0_aList 1048576) fun r3 => (bif decide (r3 < 0) then (some true) else (Option.bind (F15 n a0_aList) fun r12 => (Option.bind (F14 n r12) fun r20 => (Option.bind (F15 n a0_aList) fun r27 => (Option.bind (F16 n r27) fun r35 => (bif (r35 != r20) then (some false) else (Option.bind (F15 n a0_aList) fun r44 => (Option.bind (F17 n r27 r44) fun r52 => (bif (!r52) then (some false) else (some true)))))))))))
theorem W3 {n : Nat} {a0_aList : List S_Check} {r : Bool} {w : World} {v1 : Value} (hF : F3 n a0_aList = some r) (ha2 : slRep C_Check w (Iv 0 w.heap.size) a0_aList v1) :
    Calls Try.prog 3 [v1].toArray w (Ret fun u w2 => u = .bool r ∧ Ext w w2) := by
  refine calls_of Try.func3 rfl Try.ntmps3 ?_
  have he0 : Ext w w := Ext.refl w
  unfold F3 at hF
  refine WC.seq ?_
  refine WC.region ?_
  refine TL.yld rfl rfl (yld_assign rfl rfl) ?_
  refine TL.done ?_
  refine NX.seq ?_
  refine WC.seq ?_
  refine WC.region ?_
  refine TL.yld rfl rfl (yld_assign rfl rfl) ?_
  refine TL.done ?_
  refine NX.seq ?_
  refine WC.seq ?_
  refine WC.region ?_
  refine TL.yld rfl rfl (yld_move rfl rfl) ?_
  refine TL.yld rfl rfl (yld_move rfl rfl) ?_
  obtain ⟨r3, hr4, hF⟩ := bsome hF
  refine TL.eff rfl rfl (eff_call rfl gf_13 rfl (W13 hr4 ((slRep.old ha2 he0 (Nat.le_refl _)).wide (Nat.le_refl _) (he0).size))) ?_
  rintro _ w5 ⟨rfl, hx6⟩
  have he8 : Ext w w5 := Ext.trans he0 hx6
  have hz9 := (hx6).size
  refine TL.yld rfl rfl (yld_assign rfl rfl) ?_
  refine TL.done ?_
  refine NX.seq ?_
  refine WC.seq ?_
  refine WC.seq ?_
  refine WC.region ?_
  refine TL.yld rfl rfl (yld_move rfl rfl) ?_
  refine TL.yld rfl rfl (yld_lss rfl rfl rfl) ?_
  refine TL.done ?_
  refine NX.seq ?_
  refine WC.cond rfl ?_ ?_
  · intro hc10
    replace hF := bif_t hc10 hF
    refine WC.seq ?_
    refine WC.region ?_
    refine TL.yld rfl rfl (yld_assign rfl rfl) ?_
    refine TL.done ?_
    refine NX.seq ?_
    refine WC.ret' ?_
    refine NX.then_r ?_
    obtain rfl := Option.some.inj hF
    exact NX.end (rs := [.tmp 2]) (vs := [.bool true]) rfl ⟨rfl, trivial⟩ ⟨_, rfl, rfl, he8⟩
  · intro hc11
    replace hF := bif_f hc11 hF
    refine WC.skip' ?_
    refine NX.seq ?_
    refine WC.seq ?_
    refine WC.region ?_
    refine TL.yld rfl rfl (yld_move rfl rfl) ?_
    obtain ⟨r12, hr13, hF⟩ := bsome hF
    refine TL.eff rfl rfl (eff_call rfl gf_15 rfl (W15 hr13 ((slRep.old ha2 he8 (Nat.le_refl _)).wide (Nat.le_refl _) (he8).size))) ?_
    rintro u16 w14 ⟨hs17, hx15⟩
    have he18 : Ext w w14 := Ext.trans he8 hx15
    have hz19 := (hx15).size
    obtain ⟨r20, hr21, hF⟩ := bsome hF
    refine TL.eff rfl rfl (eff_call rfl gf_14 rfl (W14 hr21 (hs17.wide (Nat.zero_le _) (by omega)))) ?_
    rintro _ w22 ⟨rfl, hx23⟩
    have he25 : Ext w w22 := Ext.trans he18 hx23
    have hs17 := slRep.old hs17 hx23 (by omega)
    have hz26 := (hx23).size
    refine TL.yld rfl rfl (yld_assign rfl rfl) ?_
    refine TL.done ?_
    refine NX.seq ?_
    refine WC.seq ?_
    refine WC.region ?_
    refine TL.yld rfl rfl (yld_move rfl rfl) ?_
    obtain ⟨r27, hr28, hF⟩ := bsome hF
    refine TL.eff rfl rfl (eff_call rfl gf_15 rfl (W15 hr28 ((slRep.old ha2 he25 (Nat.le_refl _)).wide (Nat.le_refl _) (he25).size))) ?_
    rintro u31 w29 ⟨hs32, hx30⟩
    have he33 : Ext w w29 := Ext.trans he25 hx30
    have hs17 := slRep.old hs17 hx30 (by omega)
    have hz34 := (hx30).size
    refine TL.yld rfl rfl (yld_assign rfl rfl) ?_
    refine TL.done ?_
    refine NX.seq ?_
    refine WC.seq ?_
    refine WC.region ?_
    refine TL.yld rfl rfl (yld_move rfl rfl) ?_
    obtain ⟨r35, hr36, hF⟩ := bsome hF
    refine TL.eff rfl rfl (eff_call rfl gf_16 rfl (W16 hr36 (hs32.wide (Nat.zero_le _) (by omega)))) ?_
    rintro _ w37 ⟨rfl, hx38⟩
    have he40 : Ext w w37 := Ext.trans he33 hx38
    have hs17 := slRep.old hs17 hx38 (by omega)
    have hs32 := slRep.old hs32 hx38 (by omega)
    have hz41 := (hx38).size
    refine TL.yld rfl rfl (yld_assign rfl rfl) ?_
    refine TL.done ?_
    refine NX.seq ?_
    refine WC.seq ?_
    refine WC.seq ?_
    refine WC.region ?_
    refine TL.yld rfl rfl (yld_move rfl rfl) ?_
    refine TL.yld rfl rfl (yld_move rfl rfl) ?_
    refine TL.yld rfl rfl (yld_neq rfl rfl rfl) ?_
    refine TL.done ?_
    refine NX.seq ?_
    refine WC.cond rfl ?_ ?_
    · intro hc42
      replace hF := bif_t hc42 hF
      refine WC.seq ?_
      refine WC.region ?_
      refine TL.yld rfl rfl (yld_assign rfl rfl) ?_
      refine TL.done ?_
      refine NX.seq ?_
      refine WC.ret' ?_
      refine NX.then_r ?_
      obtain rfl := Option.some.inj hF
      exact NX.end (rs := [.tmp 2]) (vs := [.bool false]) rfl ⟨rfl, trivial⟩ ⟨_, rfl, rfl, he40⟩
    · intro hc43
      replace hF := bif_f hc43 hF
      refine WC.skip' ?_
      refine NX.seq ?_
      refine WC.seq ?_
      refine WC.seq ?_
      refine WC.region ?_
      refine TL.yld rfl rfl (yld_move rfl rfl) ?_
      refine TL.yld rfl rfl (yld_move rfl rfl) ?_
      obtain ⟨r44, hr45, hF⟩ := bsome hF
      refine TL.eff rfl rfl (eff_call rfl gf_15 rfl (W15 hr45 ((slRep.old ha2 he40 (Nat.le_refl _)).wide (Nat.le_refl _) (he40).size))) ?_
      rintro u48 w46 ⟨hs49, hx47⟩
      have he50 : Ext w w46 := Ext.trans he40 hx47
      have hs17 := slRep.old hs17 hx47 (by omega)
      have hs32 := slRep.old hs32 hx47 (by omega)
      have hz51 := (hx47).size
      obtain ⟨r52, hr53, hF⟩ := bsome hF
      refine TL.eff rfl rfl (eff_call rfl gf_17 rfl (W17 hr53 (hs32.wide (Nat.zero_le _) (by omega)) (hs49.wide (Nat.zero_le _) (by omega)))) ?_
      rintro _ w54 ⟨rfl, hx55⟩
      have he57 : Ext w w54 := Ext.trans he50 hx55
      have hs17 := slRep.old hs17 hx55 (by omega)
      have hs32 := slRep.old hs32 hx55 (by omega)
      have hs49 := slRep.old hs49 hx55 (by omega)
      have hz58 := (hx55).size
      refine TL.yld rfl rfl (yld_not rfl rfl) ?_
      refine TL.done ?_
      refine NX.seq ?_
      refine WC.cond rfl ?_ ?_
      · intro hc59
        replace hF := bif_t hc59 hF
        refine WC.seq ?_
        refine WC.region ?_
        refine TL.yld rfl rfl (yld_assign rfl rfl) ?_
        refine TL.done ?_
        refine NX.seq ?_
        refine WC.ret' ?_
        refine NX.then_r ?_
        obtain rfl := Option.some.inj hF
        exact NX.end (rs := [.tmp 2]) (vs := [.bool false]) rfl ⟨rfl, trivial⟩ ⟨_, rfl, rfl, he57⟩
      · intro hc60
        replace hF := bif_f hc60 hF
        refine WC.skip' ?_
        refine NX.seq ?_
        refine WC.seq ?_
        refine WC.region ?_
        refine TL.yld rfl rfl (yld_assign rfl rfl) ?_
        refine TL.done ?_
        refine NX.seq ?_
        refine WC.ret' ?_
        obtain rfl := Option.some.inj hF
        exact NX.end (rs := [.tmp 2]) (vs := [.bool true]) rfl ⟨rfl, trivial⟩ ⟨_, rfl, rfl, he57⟩
theorem Rd_2 : Rd Try.prog 2 (cInt .i64) (inK .i64) := Rd.int Try.underlying2
theorem Rd_71 : Rd Try.prog 71 C_Check R_Check := Rd.map (Rd.struct (fs := [_, _, _, _]) Try.underlying71 (by kernel_rfl) (RdF.cons Rd_2 rfl (by kernel_rfl) (RdF.cons Rd_2 rfl (by kernel_rfl) (RdF.cons Rd_2 rfl (by kernel_rfl) (RdF.one Rd_2 rfl (by kernel_rfl)))))) (fun (x : S_Check) => (x.Instance, x.Arc, x.Transition, x.Slack)) (fun p => (⟨p.1, p.2.1, p.2.2.1, p.2.2.2⟩ : S_Check)) (fun _ => rfl)
theorem Rd_22 : Rd Try.prog 22 (cSl C_Check) (fun xs => xs.length ≤ 9223372036854775807 ∧ ∀ x ∈ xs, R_Check x) := Rd.slice Try.underlying22 (by kernel_rfl) rfl Rd_71
end Go.Proofs.Ytmhmpfckdhiijaa
