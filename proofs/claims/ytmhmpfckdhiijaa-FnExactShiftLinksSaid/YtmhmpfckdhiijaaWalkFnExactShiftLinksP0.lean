/- The walks: every function that FnExactShiftLinks reaches computes the plain function that is typed beside it; no condition. -/
import Derived.Test.YtmhmpfckdhiijaaProg
import Derived.Test.YtmhmpfckdhiijaaDat
set_option linter.all false
set_option maxRecDepth 20000
namespace Go.Proofs.Ytmhmpfckdhiijaa
open Go Go.RowKit Go.Eng
theorem Try.hm : Try.prog.follows .mixedOrders = true := by kernel_rfl
theorem ag_109 : aggB Try.prog 109 = some true := by kernel_rfl
theorem ag_111 : aggB Try.prog 111 = some true := by kernel_rfl
theorem ag_2 : aggB Try.prog 2 = some false := by kernel_rfl
theorem ag_29 : aggB Try.prog 29 = some false := by kernel_rfl
theorem ag_30 : aggB Try.prog 30 = some false := by kernel_rfl
theorem ag_32 : aggB Try.prog 32 = some true := by kernel_rfl
theorem ag_35 : aggB Try.prog 35 = some false := by kernel_rfl
theorem ag_36 : aggB Try.prog 36 = some false := by kernel_rfl
theorem ag_38 : aggB Try.prog 38 = some true := by kernel_rfl
theorem ag_50 : aggB Try.prog 50 = some true := by kernel_rfl
theorem ag_77 : aggB Try.prog 77 = some true := by kernel_rfl
theorem cn_109 : cellsN Try.prog 109 = some 2 := by kernel_rfl
theorem cn_111 : cellsN Try.prog 111 = some 4 := by kernel_rfl
theorem cn_2 : cellsN Try.prog 2 = some 1 := by kernel_rfl
theorem cn_32 : cellsN Try.prog 32 = some 2 := by kernel_rfl
theorem cn_35 : cellsN Try.prog 35 = some 1 := by kernel_rfl
theorem cn_36 : cellsN Try.prog 36 = some 1 := by kernel_rfl
theorem cn_38 : cellsN Try.prog 38 = some 2 := by kernel_rfl
theorem cn_50 : cellsN Try.prog 50 = some 2 := by kernel_rfl
theorem cn_77 : cellsN Try.prog 77 = some 4 := by kernel_rfl
theorem fo_109_0 : fieldOff Try.prog 109 0 = some 0 := by kernel_rfl
theorem fo_109_1 : fieldOff Try.prog 109 1 = some 1 := by kernel_rfl
theorem fo_111_0 : fieldOff Try.prog 111 0 = some 0 := by kernel_rfl
theorem fo_111_1 : fieldOff Try.prog 111 1 = some 1 := by kernel_rfl
theorem fo_111_2 : fieldOff Try.prog 111 2 = some 2 := by kernel_rfl
theorem fo_111_3 : fieldOff Try.prog 111 3 = some 3 := by kernel_rfl
theorem fo_32_0 : fieldOff Try.prog 32 0 = some 0 := by kernel_rfl
theorem fo_32_1 : fieldOff Try.prog 32 1 = some 1 := by kernel_rfl
theorem fo_38_0 : fieldOff Try.prog 38 0 = some 0 := by kernel_rfl
theorem fo_38_1 : fieldOff Try.prog 38 1 = some 1 := by kernel_rfl
theorem fo_50_0 : fieldOff Try.prog 50 0 = some 0 := by kernel_rfl
theorem fo_50_1 : fieldOff Try.prog 50 1 = some 1 := by kernel_rfl
theorem fo_77_0 : fieldOff Try.prog 77 0 = some 0 := by kernel_rfl
theorem fo_77_1 : fieldOff Try.prog 77 1 = some 1 := by kernel_rfl
theorem fo_77_2 : fieldOff Try.prog 77 2 = some 2 := by kernel_rfl
theorem fo_77_3 : fieldOff Try.prog 77 3 = some 3 := by kernel_rfl
theorem gf_102 : goFn Try.prog 102 = true := by kernel_rfl
theorem gf_103 : goFn Try.prog 103 = true := by kernel_rfl
theorem gf_18 : goFn Try.prog 18 = true := by kernel_rfl
theorem gf_19 : goFn Try.prog 19 = true := by kernel_rfl
theorem gf_20 : goFn Try.prog 20 = true := by kernel_rfl
theorem gf_21 : goFn Try.prog 21 = true := by kernel_rfl
theorem gf_22 : goFn Try.prog 22 = true := by kernel_rfl
theorem gf_41 : goFn Try.prog 41 = true := by kernel_rfl
theorem gf_42 : goFn Try.prog 42 = true := by kernel_rfl
theorem gf_43 : goFn Try.prog 43 = true := by kernel_rfl
theorem gf_44 : goFn Try.prog 44 = true := by kernel_rfl
theorem gf_55 : goFn Try.prog 55 = true := by kernel_rfl
theorem gf_56 : goFn Try.prog 56 = true := by kernel_rfl
theorem gf_57 : goFn Try.prog 57 = true := by kernel_rfl
theorem gf_58 : goFn Try.prog 58 = true := by kernel_rfl
theorem gf_59 : goFn Try.prog 59 = true := by kernel_rfl
theorem gf_60 : goFn Try.prog 60 = true := by kernel_rfl
theorem gf_61 : goFn Try.prog 61 = true := by kernel_rfl
theorem gf_62 : goFn Try.prog 62 = true := by kernel_rfl
theorem gf_63 : goFn Try.prog 63 = true := by kernel_rfl
theorem gf_79 : goFn Try.prog 79 = true := by kernel_rfl
theorem gf_80 : goFn Try.prog 80 = true := by kernel_rfl
theorem gf_81 : goFn Try.prog 81 = true := by kernel_rfl
theorem gf_82 : goFn Try.prog 82 = true := by kernel_rfl
theorem gf_83 : goFn Try.prog 83 = true := by kernel_rfl
theorem gf_84 : goFn Try.prog 84 = true := by kernel_rfl
theorem gf_85 : goFn Try.prog 85 = true := by kernel_rfl
theorem gf_86 : goFn Try.prog 86 = true := by kernel_rfl
theorem gf_89 : goFn Try.prog 89 = true := by kernel_rfl
theorem gf_90 : goFn Try.prog 90 = true := by kernel_rfl
theorem gf_91 : goFn Try.prog 91 = true := by kernel_rfl
theorem gf_92 : goFn Try.prog 92 = true := by kernel_rfl
theorem in_50 : infoN Try.prog 50 = some ([.int .i64 0, .int .i64 0], 2, 16) := by kernel_rfl
theorem in_77 : infoN Try.prog 77 = some ([.int .i64 0, .int .i64 0, .int .i64 0, .int .i64 0], 4, 32) := by kernel_rfl
theorem pl_38 : placesN Try.prog 38 = some [(0, 1), (1, 1)] := by kernel_rfl
theorem zn_38 : zeroN Try.prog 38 = some [.slice none 0 0, .slice none 0 0] := by kernel_rfl
theorem zn_50 : zeroN Try.prog 50 = some [.int .i64 0, .int .i64 0] := by kernel_rfl
theorem zn_77 : zeroN Try.prog 77 = some [.int .i64 0, .int .i64 0, .int .i64 0, .int .i64 0] := by kernel_rfl
-- loop.example/g00861/laws.szLatchS
def F_laws_szLatchS (n : Nat) (a0_a : List S_Latch) (a1_left : Int) : Option Int := (bif decide (IntKind.wrap IntKind.i64 (a1_left - ((a0_a.length : Int))) < 0) then (some (-1)) else (some (IntKind.wrap IntKind.i64 (a1_left - ((a0_a.length : Int))))))
set_option maxHeartbeats 4000000 in
theorem W_laws_szLatchS {n : Nat} {a0_a : List S_Latch} {a1_left : Int} {r : Int} {w : World} {v1 : Value} (hF : F_laws_szLatchS n a0_a a1_left = some r) (ha2 : slRep C_Latch w (Iv 0 w.heap.size) a0_a v1) :
    Calls Try.prog 55 [v1, .int .i64 a1_left].toArray w (Ret fun u w2 => u = .int .i64 r ∧ Ext w w2) := by
  refine calls_of Try.func55 rfl Try.ntmps55 ?_
  have he0 : Ext w w := Ext.refl w
  unfold F_laws_szLatchS at hF
  refine WC.seq ?_
  refine WC.region ?_
  refine TL.yld rfl rfl (yld_assign rfl rfl) ?_
  refine TL.done ?_
  refine NX.seq ?_
  refine WC.seq ?_
  refine WC.region ?_
  refine TL.yld rfl rfl (yld_move rfl rfl) ?_
  refine TL.yld rfl rfl (yld_move rfl rfl) ?_
  refine TL.yld rfl rfl (ye_len (c := C_Latch) rfl Try.underlying29 rfl (slRep.old ha2 he0 (Nat.le_refl _))) ?_
  refine TL.yld rfl rfl (yld_sub rfl rfl rfl) ?_
  refine TL.yld rfl rfl (yld_assign rfl rfl) ?_
  refine TL.done ?_
  refine NX.seq ?_
  refine WC.seq ?_
  refine WC.seq ?_
  refine WC.region ?_
  refine TL.yld rfl rfl (yld_move rfl rfl) ?_
  refine TL.yld rfl rfl (yld_lss rfl rfl rfl) ?_
  refine TL.done ?_
  refine NX.seq ?_
  refine WC.cond rfl ?_ ?_
  · intro hc3
    replace hF := bif_t hc3 hF
    refine WC.seq ?_
    refine WC.region ?_
    refine TL.yld rfl rfl (yld_assign rfl rfl) ?_
    refine TL.done ?_
    refine NX.seq ?_
    refine WC.ret' ?_
    refine NX.then_r ?_
    obtain rfl := Option.some.inj hF
    exact NX.end (rs := [.tmp 4]) (vs := [.int .i64 (-1)]) rfl ⟨rfl, trivial⟩ ⟨_, rfl, rfl, he0⟩
  · intro hc4
    replace hF := bif_f hc4 hF
    refine WC.skip' ?_
    refine NX.seq ?_
    refine WC.seq ?_
    refine WC.region ?_
    refine TL.yld rfl rfl (yld_move rfl rfl) ?_
    refine TL.yld rfl rfl (yld_assign rfl rfl) ?_
    refine TL.done ?_
    refine NX.seq ?_
    refine WC.ret' ?_
    obtain rfl := Option.some.inj hF
    exact NX.end (rs := [.tmp 4]) (vs := [.int .i64 (IntKind.wrap IntKind.i64 (a1_left - ((a0_a.length : Int))))]) rfl ⟨rfl, trivial⟩ ⟨_, rfl, rfl, he0⟩

-- loop.example/g00861/laws.szLatchLinkS
def F_laws_szLatchLinkS (n : Nat) (a0_a : List S_LatchLink) (a1_left : Int) : Option Int := (bif decide (IntKind.wrap IntKind.i64 (a1_left - ((a0_a.length : Int))) < 0) then (some (-1)) else (some (IntKind.wrap IntKind.i64 (a1_left - ((a0_a.length : Int))))))
set_option maxHeartbeats 4000000 in
theorem W_laws_szLatchLinkS {n : Nat} {a0_a : List S_LatchLink} {a1_left : Int} {r : Int} {w : World} {v1 : Value} (hF : F_laws_szLatchLinkS n a0_a a1_left = some r) (ha2 : slRep C_LatchLink w (Iv 0 w.heap.size) a0_a v1) :
    Calls Try.prog 56 [v1, .int .i64 a1_left].toArray w (Ret fun u w2 => u = .int .i64 r ∧ Ext w w2) := by
  refine calls_of Try.func56 rfl Try.ntmps56 ?_
  have he0 : Ext w w := Ext.refl w
  unfold F_laws_szLatchLinkS at hF
  refine WC.seq ?_
  refine WC.region ?_
  refine TL.yld rfl rfl (yld_assign rfl rfl) ?_
  refine TL.done ?_
  refine NX.seq ?_
  refine WC.seq ?_
  refine WC.region ?_
  refine TL.yld rfl rfl (yld_move rfl rfl) ?_
  refine TL.yld rfl rfl (yld_move rfl rfl) ?_
  refine TL.yld rfl rfl (ye_len (c := C_LatchLink) rfl Try.underlying30 rfl (slRep.old ha2 he0 (Nat.le_refl _))) ?_
  refine TL.yld rfl rfl (yld_sub rfl rfl rfl) ?_
  refine TL.yld rfl rfl (yld_assign rfl rfl) ?_
  refine TL.done ?_
  refine NX.seq ?_
  refine WC.seq ?_
  refine WC.seq ?_
  refine WC.region ?_
  refine TL.yld rfl rfl (yld_move rfl rfl) ?_
  refine TL.yld rfl rfl (yld_lss rfl rfl rfl) ?_
  refine TL.done ?_
  refine NX.seq ?_
  refine WC.cond rfl ?_ ?_
  · intro hc3
    replace hF := bif_t hc3 hF
    refine WC.seq ?_
    refine WC.region ?_
    refine TL.yld rfl rfl (yld_assign rfl rfl) ?_
    refine TL.done ?_
    refine NX.seq ?_
    refine WC.ret' ?_
    refine NX.then_r ?_
    obtain rfl := Option.some.inj hF
    exact NX.end (rs := [.tmp 4]) (vs := [.int .i64 (-1)]) rfl ⟨rfl, trivial⟩ ⟨_, rfl, rfl, he0⟩
  · intro hc4
    replace hF := bif_f hc4 hF
    refine WC.skip' ?_
    refine NX.seq ?_
    refine WC.seq ?_
    refine WC.region ?_
    refine TL.yld rfl rfl (yld_move rfl rfl) ?_
    refine TL.yld rfl rfl (yld_assign rfl rfl) ?_
    refine TL.done ?_
    refine NX.seq ?_
    refine WC.ret' ?_
    obtain rfl := Option.some.inj hF
    exact NX.end (rs := [.tmp 4]) (vs := [.int .i64 (IntKind.wrap IntKind.i64 (a1_left - ((a0_a.length : Int))))]) rfl ⟨rfl, trivial⟩ ⟨_, rfl, rfl, he0⟩

-- loop.example/g00861/laws.szLatchSystem
def F_laws_szLatchSystem (n : Nat) (a0_a : S_LatchSystem) (a1_left : Int) : Option Int := (Option.bind (F_laws_szLatchS n a0_a.Latches a1_left) fun r12 => (bif decide (r12 < 0) then (some (-1)) else (Option.bind (F_laws_szLatchLinkS n a0_a.Links r12) fun r20 => (bif decide (r20 < 0) then (some (-1)) else (some r20)))))
set_option maxHeartbeats 4000000 in
theorem W_laws_szLatchSystem {n : Nat} {a0_a : S_LatchSystem} {a1_left : Int} {r : Int} {w : World} {v1 : Value} {v3 : Value} (hF : F_laws_szLatchSystem n a0_a a1_left = some r) (ha2 : slRep C_Latch w (Iv 0 w.heap.size) a0_a.Latches v1) (ha4 : slRep C_LatchLink w (Iv 0 w.heap.size) a0_a.Links v3) :
    Calls Try.prog 18 [.agg #[v1, v3], .int .i64 a1_left].toArray w (Ret fun u w2 => u = .int .i64 r ∧ Ext w w2) := by
  refine calls_of Try.func18 rfl Try.ntmps18 ?_
  have he0 : Ext w w := Ext.refl w
  unfold F_laws_szLatchSystem at hF
  refine WC.seq ?_
  refine WC.region ?_
  refine TL.eff rfl rfl (eff_box rfl rfl) ?_
  rintro _ w6 ⟨b5, rfl, hn7⟩
  obtain ⟨hn7e, hn7s, hn7x, hb8⟩ := hn7
  have hb8 : Box w6 b5 [v1, v3] 32 := hb8
  have he10 : Ext w w6 := Ext.trans he0 hn7x
  have hz11 := (hn7x).size
  have hlo9 : w.heap.size ≤ b5 := by rw [hn7e]; exact (he0).size
  refine TL.yld rfl rfl (yld_assign rfl rfl) ?_
  refine TL.done ?_
  refine NX.seq ?_
  refine WC.seq ?_
  refine WC.region ?_
  refine TL.yld rfl rfl (yld_fieldAddr rfl fo_32_0 rfl) ?_
  refine TL.yld rfl rfl (yld_load1 0 rfl ag_29 rfl (Box.cells hb8) rfl rfl) ?_
  refine TL.yld rfl rfl (yld_move rfl rfl) ?_
  obtain ⟨r12, hr13, hF⟩ := bsome hF
  refine TL.eff rfl rfl (eff_call rfl gf_55 rfl (W_laws_szLatchS hr13 ((slRep.old ha2 he10 (Nat.le_refl _)).wide (Nat.le_refl _) (he10).size))) ?_
  rintro _ w14 ⟨rfl, hx15⟩
  have he16 : Ext w w14 := Ext.trans he10 hx15
  have hb8 := Box.ext hb8 hx15
  have hz17 := (hx15).size
  refine TL.yld rfl rfl (yld_assign rfl rfl) ?_
  refine TL.done ?_
  refine NX.seq ?_
  refine WC.seq ?_
  refine WC.seq ?_
  refine WC.region ?_
  refine TL.yld rfl rfl (yld_move rfl rfl) ?_
  refine TL.yld rfl rfl (yld_lss rfl rfl rfl) ?_
  refine TL.done ?_
  refine NX.seq ?_
  refine WC.cond rfl ?_ ?_
  · intro hc18
    replace hF := bif_t hc18 hF
    refine WC.seq ?_
    refine WC.region ?_
    refine TL.yld rfl rfl (yld_assign rfl rfl) ?_
    refine TL.done ?_
    refine NX.seq ?_
    refine WC.ret' ?_
    refine NX.then_r ?_
    obtain rfl := Option.some.inj hF
    exact NX.end (rs := [.tmp 4]) (vs := [.int .i64 (-1)]) rfl ⟨rfl, trivial⟩ ⟨_, rfl, rfl, he16⟩
  · intro hc19
    replace hF := bif_f hc19 hF
    refine WC.skip' ?_
    refine NX.seq ?_
    refine WC.seq ?_
    refine WC.region ?_
    refine TL.yld rfl rfl (yld_fieldAddr rfl fo_32_1 rfl) ?_
    refine TL.yld rfl rfl (yld_load1 1 rfl ag_30 rfl (Box.cells hb8) rfl rfl) ?_
    refine TL.yld rfl rfl (yld_move rfl rfl) ?_
    obtain ⟨r20, hr21, hF⟩ := bsome hF
    refine TL.eff rfl rfl (eff_call rfl gf_56 rfl (W_laws_szLatchLinkS hr21 ((slRep.old ha4 he16 (Nat.le_refl _)).wide (Nat.le_refl _) (he16).size))) ?_
    rintro _ w22 ⟨rfl, hx23⟩
    have he24 : Ext w w22 := Ext.trans he16 hx23
    have hb8 := Box.ext hb8 hx23
    have hz25 := (hx23).size
    refine TL.yld rfl rfl (yld_assign rfl rfl) ?_
    refine TL.done ?_
    refine NX.seq ?_
    refine WC.seq ?_
    refine WC.seq ?_
    refine WC.region ?_
    refine TL.yld rfl rfl (yld_move rfl rfl) ?_
    refine TL.yld rfl rfl (yld_lss rfl rfl rfl) ?_
    refine TL.done ?_
    refine NX.seq ?_
    refine WC.cond rfl ?_ ?_
    · intro hc26
      replace hF := bif_t hc26 hF
      refine WC.seq ?_
      refine WC.region ?_
      refine TL.yld rfl rfl (yld_assign rfl rfl) ?_
      refine TL.done ?_
      refine NX.seq ?_
      refine WC.ret' ?_
      refine NX.then_r ?_
      obtain rfl := Option.some.inj hF
      exact NX.end (rs := [.tmp 4]) (vs := [.int .i64 (-1)]) rfl ⟨rfl, trivial⟩ ⟨_, rfl, rfl, he24⟩
    · intro hc27
      replace hF := bif_f hc27 hF
      refine WC.skip' ?_
      refine NX.seq ?_
      refine WC.seq ?_
      refine WC.region ?_
      refine TL.yld rfl rfl (yld_move rfl rfl) ?_
      refine TL.yld rfl rfl (yld_assign rfl rfl) ?_
      refine TL.done ?_
      refine NX.seq ?_
      refine WC.ret' ?_
      obtain rfl := Option.some.inj hF
      exact NX.end (rs := [.tmp 4]) (vs := [.int .i64 r20]) rfl ⟨rfl, trivial⟩ ⟨_, rfl, rfl, he24⟩

-- loop.example/g00861/laws.toLatch
def F_laws_toLatch (n : Nat) (a0_a : S_Latch) : Option S_Latch := (some a0_a)
set_option maxHeartbeats 4000000 in
theorem W_laws_toLatch {n : Nat} {a0_a : S_Latch} {r : S_Latch} {w : World} (hF : F_laws_toLatch n a0_a = some r) :
    Calls Try.prog 89 [.agg #[.int .i64 a0_a.Open, .int .i64 a0_a.Close]].toArray w (Ret fun u w2 => u = .agg #[.int .i64 r.Open, .int .i64 r.Close] ∧ Ext w w2) := by
  refine calls_of Try.func89 rfl Try.ntmps89 ?_
  have he0 : Ext w w := Ext.refl w
  unfold F_laws_toLatch at hF
  refine WC.seq ?_
  refine WC.region ?_
  refine TL.eff rfl rfl (eff_box rfl rfl) ?_
  rintro _ w2 ⟨b1, rfl, hn3⟩
  obtain ⟨hn3e, hn3s, hn3x, hb4⟩ := hn3
  have hb4 : Box w2 b1 [.int .i64 a0_a.Open, .int .i64 a0_a.Close] 109 := hb4
  have he6 : Ext w w2 := Ext.trans he0 hn3x
  have hz7 := (hn3x).size
  have hlo5 : w.heap.size ≤ b1 := by rw [hn3e]; exact (he0).size
  refine TL.eff rfl rfl (eff_alloc rfl zn_50) ?_
  rintro _ w9 ⟨b8, rfl, hn10⟩
  obtain ⟨hn10e, hn10s, hn10x, hb11⟩ := hn10
  have hb11 : Box w9 b8 [.int .i64 0, .int .i64 0] 50 := hb11
  have he13 : Ext w w9 := Ext.trans he6 hn10x
  have hb4 := Box.ext hb4 hn10x
  have hz14 := (hn10x).size
  have hlo12 : w.heap.size ≤ b8 := by rw [hn10e]; exact (he6).size
  refine TL.done ?_
  refine NX.seq ?_
  refine WC.seq ?_
  refine WC.region ?_
  refine TL.eff rfl rfl (eff_alloc rfl zn_50) ?_
  rintro _ w16 ⟨b15, rfl, hn17⟩
  obtain ⟨hn17e, hn17s, hn17x, hb18⟩ := hn17
  have hb18 : Box w16 b15 [.int .i64 0, .int .i64 0] 50 := hb18
  have he20 : Ext w w16 := Ext.trans he13 hn17x
  have hb4 := Box.ext hb4 hn17x
  have hb11 := Box.ext hb11 hn17x
  have hz21 := (hn17x).size
  have hlo19 : w.heap.size ≤ b15 := by rw [hn17e]; exact (he13).size
  refine TL.done ?_
  refine NX.seq ?_
  refine WC.seq ?_
  refine WC.region ?_
  refine TL.yld rfl rfl (yld_fieldAddr rfl fo_109_0 rfl) ?_
  refine TL.yld rfl rfl (yld_load1 0 rfl ag_2 rfl (Box.cells hb4) rfl rfl) ?_
  refine TL.yld rfl rfl (yld_fieldAddr rfl fo_50_0 rfl) ?_
  refine TL.eff rfl rfl (eff_store rfl rfl rfl hb18 cn_2 rfl rfl) ?_
  rintro _ w22 ⟨hu23, hb24⟩
  have he25 : Ext w w22 := Below.trans he20 (Upd.below hu23 (by omega))
  have hb4 := Box.upd hb4 hu23 (by omega)
  have hb11 := Box.upd hb11 hu23 (by omega)
  have hz26 := (hu23).size
  have hb18 : Box w22 b15 [.int .i64 a0_a.Open, .int .i64 0] 50 := hb24
  refine TL.done ?_
  refine NX.seq ?_
  refine WC.seq ?_
  refine WC.region ?_
  refine TL.yld rfl rfl (yld_fieldAddr rfl fo_109_1 rfl) ?_
  refine TL.yld rfl rfl (yld_load1 1 rfl ag_2 rfl (Box.cells hb4) rfl rfl) ?_
  refine TL.yld rfl rfl (yld_fieldAddr rfl fo_50_1 rfl) ?_
  refine TL.eff rfl rfl (eff_store rfl rfl rfl hb18 cn_2 rfl rfl) ?_
  rintro _ w27 ⟨hu28, hb29⟩
  have he30 : Ext w w27 := Below.trans he25 (Upd.below hu28 (by omega))
  have hb4 := Box.upd hb4 hu28 (by omega)
  have hb11 := Box.upd hb11 hu28 (by omega)
  have hz31 := (hu28).size
  have hb18 : Box w27 b15 [.int .i64 a0_a.Open, .int .i64 a0_a.Close] 50 := hb29
  refine TL.done ?_
  refine NX.seq ?_
  refine WC.seq ?_
  refine WC.region ?_
  refine TL.yld rfl rfl (yld_loadN (us := [.int .i64 a0_a.Open, .int .i64 a0_a.Close]) rfl ag_50 rfl (Box.cells hb18) cn_50) ?_
  refine TL.eff rfl rfl (eff_store rfl rfl rfl hb11 cn_50 rfl rfl) ?_
  rintro _ w32 ⟨hu33, hb34⟩
  have he35 : Ext w w32 := Below.trans he30 (Upd.below hu33 (by omega))
  have hb4 := Box.upd hb4 hu33 (by omega)
  have hb18 := Box.upd hb18 hu33 (by omega)
  have hz36 := (hu33).size
  have hb11 : Box w32 b8 [.int .i64 a0_a.Open, .int .i64 a0_a.Close] 50 := hb34
  refine TL.done ?_
  refine NX.seq ?_
  refine WC.ret' ?_
  obtain rfl := Option.some.inj hF
  exact NX.end (rs := [.cell 2 50]) (vs := [.agg #[.int .i64 a0_a.Open, .int .i64 a0_a.Close]]) rfl ⟨⟨b8, rfl, box_load ag_50 cn_50 hb11⟩, trivial⟩ ⟨_, rfl, rfl, he35⟩

-- loop.example/g00861/laws.toLatchS
def F_laws_toLatchS_L1 (n : Nat) (a0_a : List S_Latch) (k0 : Int → (List S_Latch) → Option (List S_Latch)) : Nat → Int → (List S_Latch) → Option (List S_Latch)
  | 0 => fun _ _ => none
  | m + 1 => fun i20 l21 => (bif decide (i20 < (a0_a.length : Int)) then (Option.bind (getI a0_a i20) fun x24 => (Option.bind (F_laws_toLatch n x24) fun r32 => (Option.bind (getI l21 i20) fun x38 => (F_laws_toLatchS_L1 n a0_a k0 m (IntKind.wrap IntKind.i64 (i20 + 1)) ((l21.set (i20).toNat r32)))))) else (k0 i20 l21))
theorem F_laws_toLatchS_L1_z (n : Nat) (a0_a : List S_Latch) (k0 : Int → (List S_Latch) → Option (List S_Latch)) (i20 : Int) (l21 : List S_Latch) : F_laws_toLatchS_L1 n a0_a k0 0 i20 l21 = none := rfl
theorem F_laws_toLatchS_L1_s (m : Nat) (n : Nat) (a0_a : List S_Latch) (k0 : Int → (List S_Latch) → Option (List S_Latch)) (i20 : Int) (l21 : List S_Latch) : F_laws_toLatchS_L1 n a0_a k0 (m + 1) i20 l21 = (bif decide (i20 < (a0_a.length : Int)) then (Option.bind (getI a0_a i20) fun x24 => (Option.bind (F_laws_toLatch n x24) fun r32 => (Option.bind (getI l21 i20) fun x38 => (F_laws_toLatchS_L1 n a0_a k0 m (IntKind.wrap IntKind.i64 (i20 + 1)) ((l21.set (i20).toNat r32)))))) else (k0 i20 l21)) := rfl

def F_laws_toLatchS (n : Nat) (a0_a : List S_Latch) : Option (List S_Latch) := (Option.bind (mkN ((a0_a.length : Int)) 16) fun n3 => (F_laws_toLatchS_L1 n a0_a (fun i20 l21 => (some l21)) n 0 (List.replicate n3 ((S_Latch.mk 0 0)))))
set_option maxHeartbeats 4000000 in
theorem W_laws_toLatchS {n : Nat} {a0_a : List S_Latch} {r : List S_Latch} {w : World} {v1 : Value} (hF : F_laws_toLatchS n a0_a = some r) (ha2 : slRep C_Latch w (Iv 0 w.heap.size) a0_a v1) :
    Calls Try.prog 58 [v1].toArray w (Ret fun u w2 => ∃ v0_0, u = v0_0 ∧ ownR C_Latch w2 w.heap.size (Iv 0 0) 50 r v0_0 ∧ Ext w w2) := by
  refine calls_of Try.func58 rfl Try.ntmps58 ?_
  have he0 : Ext w w := Ext.refl w
  unfold F_laws_toLatchS at hF
  refine WC.seq ?_
  refine WC.region ?_
  refine TL.yld rfl rfl (yld_assign rfl rfl) ?_
  refine TL.done ?_
  refine NX.seq ?_
  refine WC.seq ?_
  refine WC.region ?_
  refine TL.yld rfl rfl (yld_move rfl rfl) ?_
  refine TL.yld rfl rfl (ye_len (c := C_Latch) rfl Try.underlying29 rfl (slRep.old ha2 he0 (Nat.le_refl _))) ?_
  obtain ⟨n3, hk4, hF⟩ := bsome hF
  refine TL.eff rfl rfl (eff_make (c := C_Latch) (z := (S_Latch.mk 0 0)) rfl Try.underlying35 in_50 rfl rfl rfl hk4 rfl rfl (fun _ => C_Latch_mk)) ?_
  rintro v5 w6 ⟨g7, hv8, hg9, hz10, hx11, hs12⟩
  have he13 : Ext w w6 := Ext.trans he0 hx11
  have hz14 := (hx11).size
  have hlo15 : w.heap.size ≤ g7 := by rw [hg9]; exact (he0).size
  have hbd16 := bd_of hv8
  clear hv8
  refine TL.yld rfl rfl (yld_assign rfl rfl) ?_
  refine TL.done ?_
  refine NX.seq ?_
  refine WC.seq ?_
  refine WC.seq ?_
  refine WC.region ?_
  refine TL.yld rfl rfl (yld_assign rfl rfl) ?_
  refine TL.done ?_
  refine NX.seq ?_
  refine WC.block ?_
  refine WC.loop (fun m23 a wl => ∃ (i20 : Int) (l21 : List S_Latch), Kn 23 [(0, v1), (3, v5), (4, .int .i64 i20)] a ∧ Ext w wl ∧ w6.heap.size ≤ wl.heap.size ∧ ownR C_Latch wl (g7) (Iv 0 0) 50 l21 v5 ∧ F_laws_toLatchS_L1 n a0_a (fun i20 l21 => (some l21)) m23 i20 l21 = some r) n ?_ ?_
  · intro a hK; exact ⟨0, (List.replicate n3 ((S_Latch.mk 0 0))), hK.weaken ⟨rfl, rfl, rfl, trivial⟩, he13, Nat.le_refl _, hs12, hF⟩
  · rintro m23 a w18 ⟨i20, l21, hK, he19, hz24, hs22, hF⟩
    revert hK; revert a; refine (?_ : WC _ _ _ _ _ _)
    cases m23 with
    | zero => rw [F_laws_toLatchS_L1_z] at hF; cases hF
    | succ m23 =>
      rw [F_laws_toLatchS_L1_s] at hF
      refine WC.seq ?_
      refine WC.seq ?_
      refine WC.region ?_
      refine TL.yld rfl rfl (yld_move rfl rfl) ?_
      refine TL.yld rfl rfl (yld_move rfl rfl) ?_
      refine TL.yld rfl rfl (ye_len (c := C_Latch) rfl Try.underlying29 rfl (slRep.old ha2 he19 (Nat.le_refl _))) ?_
      refine TL.yld rfl rfl (yld_lss rfl rfl rfl) ?_
      refine TL.done ?_
      refine NX.seq ?_
      refine WC.cond rfl ?_ ?_
      · intro hc25
        replace hF := bif_t hc25 hF
        refine WC.skip' ?_
        refine NX.seq ?_
        refine WC.seq ?_
        refine WC.block ?_
        refine WC.region ?_
        refine TL.yld rfl rfl (yld_move rfl rfl) ?_
        refine TL.yld rfl rfl (yld_move rfl rfl) ?_
        refine TL.yld rfl rfl (yld_move rfl rfl) ?_
        refine TL.yld rfl rfl (yld_move rfl rfl) ?_
        obtain ⟨x26, hy27, hF⟩ := bsome hF
        refine TL.ye rfl rfl (ye_index (c := C_Latch) rfl Try.underlying29 cn_109 rfl rfl (slRep.old ha2 he19 (Nat.le_refl _)) hy27) ?_
        rintro _ ⟨b28, o29, us30, rfl, hib33, hr31, hcl32⟩
        have hib33 : 0 ≤ b28 ∧ b28 < w.heap.size := ⟨hib33.1, by have := hib33.2; omega⟩
        obtain rfl := C_Latch_open hr31
        refine TL.yld rfl rfl (yld_loadN (us := [.int .i64 x26.Open, .int .i64 x26.Close]) rfl ag_109 rfl hcl32 cn_109) ?_
        obtain ⟨r34, hr35, hF⟩ := bsome hF
        refine TL.eff rfl rfl (eff_call rfl gf_89 rfl (W_laws_toLatch hr35)) ?_
        rintro _ w36 ⟨rfl, hx37⟩
        have he38 : Ext w w36 := Ext.trans he19 hx37
        have hs22 := ownR.ext hs22 hx37
        have hz39 := (hx37).size
        obtain ⟨x40, hy41, hF⟩ := bsome hF
        refine TL.ye rfl rfl (ye_index_own (c := C_Latch) rfl Try.underlying35 cn_50 rfl rfl hs22 hy41) ?_
        rintro _ ⟨g42, us44, rfl, hg43, hr45, hcl46⟩
        have hr45r := hr45
        obtain rfl := C_Latch_open hr45
        refine TL.eff rfl rfl (eff_store_own (c := C_Latch) (us' := [.int .i64 r34.Open, .int .i64 r34.Close]) (y' := r34) 0 _ rfl rfl rfl hs22 hg43 hy41 rfl cn_50 rfl hr45r hcl46 rfl rfl C_Latch_mk (fun k h => absurd h.2 (Nat.not_lt_zero k))) ?_
        rintro _ w47 ⟨hu48, hs49⟩
        have he50 : Ext w w47 := Below.trans he38 (Upd.below hu48 (by have := hbd16 _ hg43; omega))
        have hz51 := (hu48).size
        refine TL.done ?_
        refine NX.blk_n ?_
        refine NX.seq ?_
        refine WC.region ?_
        refine TL.yld rfl rfl (yld_move rfl rfl) ?_
        refine TL.yld rfl rfl (yld_add rfl rfl rfl) ?_
        refine TL.yld rfl rfl (yld_assign rfl rfl) ?_
        refine TL.done ?_
        refine NX.then_n ?_
        intro a hK; exact ⟨m23, Nat.lt_succ_self m23, (IntKind.wrap IntKind.i64 (i20 + 1)), ((l21.set (i20).toNat r34)), hK.weaken ⟨rfl, rfl, rfl, trivial⟩, he50, (by omega), hs49, hF⟩
      · intro hc52
        replace hF := bif_f hc52 hF
        refine WC.exit' ?_
        refine NX.then_e ?_
        refine NX.then_e ?_
        refine NX.blk_hit ?_
        refine NX.seq ?_
        refine WC.seq ?_
        refine WC.region ?_
        refine TL.yld rfl rfl (yld_move rfl rfl) ?_
        refine TL.yld rfl rfl (yld_assign rfl rfl) ?_
        refine TL.done ?_
        refine NX.seq ?_
        refine WC.ret' ?_
        obtain rfl := Option.some.inj hF
        exact NX.end (rs := [.tmp 2]) (vs := [v5]) rfl ⟨rfl, trivial⟩ ⟨_, rfl, _, rfl, ownR.base hs22 (by omega), he19⟩

-- loop.example/g00861/laws.toLatchLink
def F_laws_toLatchLink (n : Nat) (a0_a : S_LatchLink) : Option S_LatchLink := (some a0_a)
set_option maxHeartbeats 4000000 in
theorem W_laws_toLatchLink {n : Nat} {a0_a : S_LatchLink} {r : S_LatchLink} {w : World} (hF : F_laws_toLatchLink n a0_a = some r) :
    Calls Try.prog 90 [.agg #[.int .i64 a0_a.From, .int .i64 a0_a.To, .int .i64 a0_a.Delay, .int .i64 a0_a.Shift]].toArray w (Ret fun u w2 => u = .agg #[.int .i64 r.From, .int .i64 r.To, .int .i64 r.Delay, .int .i64 r.Shift] ∧ Ext w w2) := by
  refine calls_of Try.func90 rfl Try.ntmps90 ?_
  have he0 : Ext w w := Ext.refl w
  unfold F_laws_toLatchLink at hF
  refine WC.seq ?_
  refine WC.region ?_
  refine TL.eff rfl rfl (eff_box rfl rfl) ?_
  rintro _ w2 ⟨b1, rfl, hn3⟩
  obtain ⟨hn3e, hn3s, hn3x, hb4⟩ := hn3
  have hb4 : Box w2 b1 [.int .i64 a0_a.From, .int .i64 a0_a.To, .int .i64 a0_a.Delay, .int .i64 a0_a.Shift] 111 := hb4
  have he6 : Ext w w2 := Ext.trans he0 hn3x
  have hz7 := (hn3x).size
  have hlo5 : w.heap.size ≤ b1 := by rw [hn3e]; exact (he0).size
  refine TL.eff rfl rfl (eff_alloc rfl zn_77) ?_
  rintro _ w9 ⟨b8, rfl, hn10⟩
  obtain ⟨hn10e, hn10s, hn10x, hb11⟩ := hn10
  have hb11 : Box w9 b8 [.int .i64 0, .int .i64 0, .int .i64 0, .int .i64 0] 77 := hb11
  have he13 : Ext w w9 := Ext.trans he6 hn10x
  have hb4 := Box.ext hb4 hn10x
  have hz14 := (hn10x).size
  have hlo12 : w.heap.size ≤ b8 := by rw [hn10e]; exact (he6).size
  refine TL.done ?_
  refine NX.seq ?_
  refine WC.seq ?_
  refine WC.region ?_
  refine TL.eff rfl rfl (eff_alloc rfl zn_77) ?_
  rintro _ w16 ⟨b15, rfl, hn17⟩
  obtain ⟨hn17e, hn17s, hn17x, hb18⟩ := hn17
  have hb18 : Box w16 b15 [.int .i64 0, .int .i64 0, .int .i64 0, .int .i64 0] 77 := hb18
  have he20 : Ext w w16 := Ext.trans he13 hn17x
  have hb4 := Box.ext hb4 hn17x
  have hb11 := Box.ext hb11 hn17x
  have hz21 := (hn17x).size
  have hlo19 : w.heap.size ≤ b15 := by rw [hn17e]; exact (he13).size
  refine TL.done ?_
  refine NX.seq ?_
  refine WC.seq ?_
  refine WC.region ?_
  refine TL.yld rfl rfl (yld_fieldAddr rfl fo_111_0 rfl) ?_
  refine TL.yld rfl rfl (yld_load1 0 rfl ag_2 rfl (Box.cells hb4) rfl rfl) ?_
  refine TL.yld rfl rfl (yld_fieldAddr rfl fo_77_0 rfl) ?_
  refine TL.eff rfl rfl (eff_store rfl rfl rfl hb18 cn_2 rfl rfl) ?_
  rintro _ w22 ⟨hu23, hb24⟩
  have he25 : Ext w w22 := Below.trans he20 (Upd.below hu23 (by omega))
  have hb4 := Box.upd hb4 hu23 (by omega)
  have hb11 := Box.upd hb11 hu23 (by omega)
  have hz26 := (hu23).size
  have hb18 : Box w22 b15 [.int .i64 a0_a.From, .int .i64 0, .int .i64 0, .int .i64 0] 77 := hb24
  refine TL.done ?_
  refine NX.seq ?_
  refine WC.seq ?_
  refine WC.region ?_
  refine TL.yld rfl rfl (yld_fieldAddr rfl fo_111_1 rfl) ?_
  refine TL.yld rfl rfl (yld_load1 1 rfl ag_2 rfl (Box.cells hb4) rfl rfl) ?_
  refine TL.yld rfl rfl (yld_fieldAddr rfl fo_77_1 rfl) ?_
  refine TL.eff rfl rfl (eff_store rfl rfl rfl hb18 cn_2 rfl rfl) ?_
  rintro _ w27 ⟨hu28, hb29⟩
  have he30 : Ext w w27 := Below.trans he25 (Upd.below hu28 (by omega))
  have hb4 := Box.upd hb4 hu28 (by omega)
  have hb11 := Box.upd hb11 hu28 (by omega)
  have hz31 := (hu28).size
  have hb18 : Box w27 b15 [.int .i64 a0_a.From, .int .i64 a0_a.To, .int .i64 0, .int .i64 0] 77 := hb29
  refine TL.done ?_
  refine NX.seq ?_
  refine WC.seq ?_
  refine WC.region ?_
  refine TL.yld rfl rfl (yld_fieldAddr rfl fo_111_2 rfl) ?_
  refine TL.yld rfl rfl (yld_load1 2 rfl ag_2 rfl (Box.cells hb4) rfl rfl) ?_
  refine TL.yld rfl rfl (yld_fieldAddr rfl fo_77_2 rfl) ?_
  refine TL.eff rfl rfl (eff_store rfl rfl rfl hb18 cn_2 rfl rfl) ?_
  rintro _ w32 ⟨hu33, hb34⟩
  have he35 : Ext w w32 := Below.trans he30 (Upd.below hu33 (by omega))
  have hb4 := Box.upd hb4 hu33 (by omega)
  have hb11 := Box.upd hb11 hu33 (by omega)
  have hz36 := (hu33).size
  have hb18 : Box w32 b15 [.int .i64 a0_a.From, .int .i64 a0_a.To, .int .i64 a0_a.Delay, .int .i64 0] 77 := hb34
  refine TL.done ?_
  refine NX.seq ?_
  refine WC.seq ?_
  refine WC.region ?_
  refine TL.yld rfl rfl (yld_fieldAddr rfl fo_111_3 rfl) ?_
  refine TL.yld rfl rfl (yld_load1 3 rfl ag_2 rfl (Box.cells hb4) rfl rfl) ?_
  refine TL.yld rfl rfl (yld_fieldAddr rfl fo_77_3 rfl) ?_
  refine TL.eff rfl rfl (eff_store rfl rfl rfl hb18 cn_2 rfl rfl) ?_
  rintro _ w37 ⟨hu38, hb39⟩
  have he40 : Ext w w37 := Below.trans he35 (Upd.below hu38 (by omega))
  have hb4 := Box.upd hb4 hu38 (by omega)
  have hb11 := Box.upd hb11 hu38 (by omega)
  have hz41 := (hu38).size
  have hb18 : Box w37 b15 [.int .i64 a0_a.From, .int .i64 a0_a.To, .int .i64 a0_a.Delay, .int .i64 a0_a.Shift] 77 := hb39
  refine TL.done ?_
  refine NX.seq ?_
  refine WC.seq ?_
  refine WC.region ?_
  refine TL.yld rfl rfl (yld_loadN (us := [.int .i64 a0_a.From, .int .i64 a0_a.To, .int .i64 a0_a.Delay, .int .i64 a0_a.Shift]) rfl ag_77 rfl (Box.cells hb18) cn_77) ?_
  refine TL.eff rfl rfl (eff_store rfl rfl rfl hb11 cn_77 rfl rfl) ?_
  rintro _ w42 ⟨hu43, hb44⟩
  have he45 : Ext w w42 := Below.trans he40 (Upd.below hu43 (by omega))
  have hb4 := Box.upd hb4 hu43 (by omega)
  have hb18 := Box.upd hb18 hu43 (by omega)
  have hz46 := (hu43).size
  have hb11 : Box w42 b8 [.int .i64 a0_a.From, .int .i64 a0_a.To, .int .i64 a0_a.Delay, .int .i64 a0_a.Shift] 77 := hb44
  refine TL.done ?_
  refine NX.seq ?_
  refine WC.ret' ?_
  obtain rfl := Option.some.inj hF
  exact NX.end (rs := [.cell 2 77]) (vs := [.agg #[.int .i64 a0_a.From, .int .i64 a0_a.To, .int .i64 a0_a.Delay, .int .i64 a0_a.Shift]]) rfl ⟨⟨b8, rfl, box_load ag_77 cn_77 hb11⟩, trivial⟩ ⟨_, rfl, rfl, he45⟩

-- loop.example/g00861/laws.toLatchLinkS
def F_laws_toLatchLinkS_L1 (n : Nat) (a0_a : List S_LatchLink) (k0 : Int → (List S_LatchLink) → Option (List S_LatchLink)) : Nat → Int → (List S_LatchLink) → Option (List S_LatchLink)
  | 0 => fun _ _ => none
  | m + 1 => fun i20 l21 => (bif decide (i20 < (a0_a.length : Int)) then (Option.bind (getI a0_a i20) fun x24 => (Option.bind (F_laws_toLatchLink n x24) fun r32 => (Option.bind (getI l21 i20) fun x38 => (F_laws_toLatchLinkS_L1 n a0_a k0 m (IntKind.wrap IntKind.i64 (i20 + 1)) ((l21.set (i20).toNat r32)))))) else (k0 i20 l21))
theorem F_laws_toLatchLinkS_L1_z (n : Nat) (a0_a : List S_LatchLink) (k0 : Int → (List S_LatchLink) → Option (List S_LatchLink)) (i20 : Int) (l21 : List S_LatchLink) : F_laws_toLatchLinkS_L1 n a0_a k0 0 i20 l21 = none := rfl
theorem F_laws_toLatchLinkS_L1_s (m : Nat) (n : Nat) (a0_a : List S_LatchLink) (k0 : Int → (List S_LatchLink) → Option (List S_LatchLink)) (i20 : Int) (l21 : List S_LatchLink) : F_laws_toLatchLinkS_L1 n a0_a k0 (m + 1) i20 l21 = (bif decide (i20 < (a0_a.length : Int)) then (Option.bind (getI a0_a i20) fun x24 => (Option.bind (F_laws_toLatchLink n x24) fun r32 => (Option.bind (getI l21 i20) fun x38 => (F_laws_toLatchLinkS_L1 n a0_a k0 m (IntKind.wrap IntKind.i64 (i20 + 1)) ((l21.set (i20).toNat r32)))))) else (k0 i20 l21)) := rfl

def F_laws_toLatchLinkS (n : Nat) (a0_a : List S_LatchLink) : Option (List S_LatchLink) := (Option.bind (mkN ((a0_a.length : Int)) 32) fun n3 => (F_laws_toLatchLinkS_L1 n a0_a (fun i20 l21 => (some l21)) n 0 (List.replicate n3 ((S_LatchLink.mk 0 0 0 0)))))
set_option maxHeartbeats 4000000 in
theorem W_laws_toLatchLinkS {n : Nat} {a0_a : List S_LatchLink} {r : List S_LatchLink} {w : World} {v1 : Value} (hF : F_laws_toLatchLinkS n a0_a = some r) (ha2 : slRep C_LatchLink w (Iv 0 w.heap.size) a0_a v1) :
    Calls Try.prog 59 [v1].toArray w (Ret fun u w2 => ∃ v0_0, u = v0_0 ∧ ownR C_LatchLink w2 w.heap.size (Iv 0 0) 77 r v0_0 ∧ Ext w w2) := by
  refine calls_of Try.func59 rfl Try.ntmps59 ?_
  have he0 : Ext w w := Ext.refl w
  unfold F_laws_toLatchLinkS at hF
  refine WC.seq ?_
  refine WC.region ?_
  refine TL.yld rfl rfl (yld_assign rfl rfl) ?_
  refine TL.done ?_
  refine NX.seq ?_
  refine WC.seq ?_
  refine WC.region ?_
  refine TL.yld rfl rfl (yld_move rfl rfl) ?_
  refine TL.yld rfl rfl (ye_len (c := C_LatchLink) rfl Try.underlying30 rfl (slRep.old ha2 he0 (Nat.le_refl _))) ?_
  obtain ⟨n3, hk4, hF⟩ := bsome hF
  refine TL.eff rfl rfl (eff_make (c := C_LatchLink) (z := (S_LatchLink.mk 0 0 0 0)) rfl Try.underlying36 in_77 rfl rfl rfl hk4 rfl rfl (fun _ => C_LatchLink_mk)) ?_
  rintro v5 w6 ⟨g7, hv8, hg9, hz10, hx11, hs12⟩
  have he13 : Ext w w6 := Ext.trans he0 hx11
  have hz14 := (hx11).size
  have hlo15 : w.heap.size ≤ g7 := by rw [hg9]; exact (he0).size
  have hbd16 := bd_of hv8
  clear hv8
  refine TL.yld rfl rfl (yld_assign rfl rfl) ?_
  refine TL.done ?_
  refine NX.seq ?_
  refine WC.seq ?_
  refine WC.seq ?_
  refine WC.region ?_
  refine TL.yld rfl rfl (yld_assign rfl rfl) ?_
  refine TL.done ?_
  refine NX.seq ?_
  refine WC.block ?_
  refine WC.loop (fun m23 a wl => ∃ (i20 : Int) (l21 : List S_LatchLink), Kn 23 [(0, v1), (3, v5), (4, .int .i64 i20)] a ∧ Ext w wl ∧ w6.heap.size ≤ wl.heap.size ∧ ownR C_LatchLink wl (g7) (Iv 0 0) 77 l21 v5 ∧ F_laws_toLatchLinkS_L1 n a0_a (fun i20 l21 => (some l21)) m23 i20 l21 = some r) n ?_ ?_
  · intro a hK; exact ⟨0, (List.replicate n3 ((S_LatchLink.mk 0 0 0 0))), hK.weaken ⟨rfl, rfl, rfl, trivial⟩, he13, Nat.le_refl _, hs12, hF⟩
  · rintro m23 a w18 ⟨i20, l21, hK, he19, hz24, hs22, hF⟩
    revert hK; revert a; refine (?_ : WC _ _ _ _ _ _)
    cases m23 with
    | zero => rw [F_laws_toLatchLinkS_L1_z] at hF; cases hF
    | succ m23 =>
      rw [F_laws_toLatchLinkS_L1_s] at hF
      refine WC.seq ?_
      refine WC.seq ?_
      refine WC.region ?_
      refine TL.yld rfl rfl (yld_move rfl rfl) ?_
      refine TL.yld rfl rfl (yld_move rfl rfl) ?_
      refine TL.yld rfl rfl (ye_len (c := C_LatchLink) rfl Try.underlying30 rfl (slRep.old ha2 he19 (Nat.le_refl _))) ?_
      refine TL.yld rfl rfl (yld_lss rfl rfl rfl) ?_
      refine TL.done ?_
      refine NX.seq ?_
      refine WC.cond rfl ?_ ?_
      · intro hc25
        replace hF := bif_t hc25 hF
        refine WC.skip' ?_
        refine NX.seq ?_
        refine WC.seq ?_
        refine WC.block ?_
        refine WC.region ?_
        refine TL.yld rfl rfl (yld_move rfl rfl) ?_
        refine TL.yld rfl rfl (yld_move rfl rfl) ?_
        refine TL.yld rfl rfl (yld_move rfl rfl) ?_
        refine TL.yld rfl rfl (yld_move rfl rfl) ?_
        obtain ⟨x26, hy27, hF⟩ := bsome hF
        refine TL.ye rfl rfl (ye_index (c := C_LatchLink) rfl Try.underlying30 cn_111 rfl rfl (slRep.old ha2 he19 (Nat.le_refl _)) hy27) ?_
        rintro _ ⟨b28, o29, us30, rfl, hib33, hr31, hcl32⟩
        have hib33 : 0 ≤ b28 ∧ b28 < w.heap.size := ⟨hib33.1, by have := hib33.2; omega⟩
        obtain rfl := C_LatchLink_open hr31
        refine TL.yld rfl rfl (yld_loadN (us := [.int .i64 x26.From, .int .i64 x26.To, .int .i64 x26.Delay, .int .i64 x26.Shift]) rfl ag_111 rfl hcl32 cn_111) ?_
        obtain ⟨r34, hr35, hF⟩ := bsome hF
        refine TL.eff rfl rfl (eff_call rfl gf_90 rfl (W_laws_toLatchLink hr35)) ?_
        rintro _ w36 ⟨rfl, hx37⟩
        have he38 : Ext w w36 := Ext.trans he19 hx37
        have hs22 := ownR.ext hs22 hx37
        have hz39 := (hx37).size
        obtain ⟨x40, hy41, hF⟩ := bsome hF
        refine TL.ye rfl rfl (ye_index_own (c := C_LatchLink) rfl Try.underlying36 cn_77 rfl rfl hs22 hy41) ?_
        rintro _ ⟨g42, us44, rfl, hg43, hr45, hcl46⟩
        have hr45r := hr45
        obtain rfl := C_LatchLink_open hr45
        refine TL.eff rfl rfl (eff_store_own (c := C_LatchLink) (us' := [.int .i64 r34.From, .int .i64 r34.To, .int .i64 r34.Delay, .int .i64 r34.Shift]) (y' := r34) 0 _ rfl rfl rfl hs22 hg43 hy41 rfl cn_77 rfl hr45r hcl46 rfl rfl C_LatchLink_mk (fun k h => absurd h.2 (Nat.not_lt_zero k))) ?_
        rintro _ w47 ⟨hu48, hs49⟩
        have he50 : Ext w w47 := Below.trans he38 (Upd.below hu48 (by have := hbd16 _ hg43; omega))
        have hz51 := (hu48).size
        refine TL.done ?_
        refine NX.blk_n ?_
        refine NX.seq ?_
        refine WC.region ?_
        refine TL.yld rfl rfl (yld_move rfl rfl) ?_
        refine TL.yld rfl rfl (yld_add rfl rfl rfl) ?_
        refine TL.yld rfl rfl (yld_assign rfl rfl) ?_
        refine TL.done ?_
        refine NX.then_n ?_
        intro a hK; exact ⟨m23, Nat.lt_succ_self m23, (IntKind.wrap IntKind.i64 (i20 + 1)), ((l21.set (i20).toNat r34)), hK.weaken ⟨rfl, rfl, rfl, trivial⟩, he50, (by omega), hs49, hF⟩
      · intro hc52
        replace hF := bif_f hc52 hF
        refine WC.exit' ?_
        refine NX.then_e ?_
        refine NX.then_e ?_
        refine NX.blk_hit ?_
        refine NX.seq ?_
        refine WC.seq ?_
        refine WC.region ?_
        refine TL.yld rfl rfl (yld_move rfl rfl) ?_
        refine TL.yld rfl rfl (yld_assign rfl rfl) ?_
        refine TL.done ?_
        refine NX.seq ?_
        refine WC.ret' ?_
        obtain rfl := Option.some.inj hF
        exact NX.end (rs := [.tmp 2]) (vs := [v5]) rfl ⟨rfl, trivial⟩ ⟨_, rfl, _, rfl, ownR.base hs22 (by omega), he19⟩

-- loop.example/g00861/laws.toLatchSystem
def F_laws_toLatchSystem (n : Nat) (a0_a : S_LatchSystem) : Option S_LatchSystem := (Option.bind (F_laws_toLatchS n a0_a.Latches) fun r26 => (Option.bind (F_laws_toLatchLinkS n a0_a.Links) fun r41 => (some ((S_LatchSystem.mk r26 r41)))))
set_option maxHeartbeats 4000000 in
theorem W_laws_toLatchSystem {n : Nat} {a0_a : S_LatchSystem} {r : S_LatchSystem} {w : World} {v1 : Value} {v3 : Value} (hF : F_laws_toLatchSystem n a0_a = some r) (ha2 : slRep C_Latch w (Iv 0 w.heap.size) a0_a.Latches v1) (ha4 : slRep C_LatchLink w (Iv 0 w.heap.size) a0_a.Links v3) :
    Calls Try.prog 20 [.agg #[v1, v3]].toArray w (Ret fun u w2 => ∃ v0_0 v0_1, u = .agg #[v0_0, v0_1] ∧ ownR C_Latch w2 w.heap.size (Iv 0 0) 50 r.Latches v0_0 ∧ ownR C_LatchLink w2 w.heap.size (Iv 0 0) 77 r.Links v0_1 ∧ (∀ g q, v0_1.ownBlock = some g → v0_0.ownBlock = some q → g ≠ q) ∧ Ext w w2) := by
  refine calls_of Try.func20 rfl Try.ntmps20 ?_
  have he0 : Ext w w := Ext.refl w
  unfold F_laws_toLatchSystem at hF
  refine WC.seq ?_
  refine WC.region ?_
  refine TL.eff rfl rfl (eff_box rfl rfl) ?_
  rintro _ w6 ⟨b5, rfl, hn7⟩
  obtain ⟨hn7e, hn7s, hn7x, hb8⟩ := hn7
  have hb8 : Box w6 b5 [v1, v3] 32 := hb8
  have he10 : Ext w w6 := Ext.trans he0 hn7x
  have hz11 := (hn7x).size
  have hlo9 : w.heap.size ≤ b5 := by rw [hn7e]; exact (he0).size
  refine TL.eff rfl rfl (eff_alloc rfl zn_38) ?_
  rintro _ w13 ⟨b12, rfl, hn14⟩
  obtain ⟨hn14e, hn14s, hn14x, hb15⟩ := hn14
  have hb15 : Box w13 b12 [.slice none 0 0, .slice none 0 0] 38 := hb15
  have he17 : Ext w w13 := Ext.trans he10 hn14x
  have hb8 := Box.ext hb8 hn14x
  have hz18 := (hn14x).size
  have hlo16 : w.heap.size ≤ b12 := by rw [hn14e]; exact (he10).size
  refine TL.done ?_
  refine NX.seq ?_
  refine WC.seq ?_
  refine WC.region ?_
  refine TL.eff rfl rfl (eff_alloc rfl zn_38) ?_
  rintro _ w20 ⟨b19, rfl, hn21⟩
  obtain ⟨hn21e, hn21s, hn21x, hb22⟩ := hn21
  have hb22 : Box w20 b19 [.slice none 0 0, .slice none 0 0] 38 := hb22
  have he24 : Ext w w20 := Ext.trans he17 hn21x
  have hb8 := Box.ext hb8 hn21x
  have hb15 := Box.ext hb15 hn21x
  have hz25 := (hn21x).size
  have hlo23 : w.heap.size ≤ b19 := by rw [hn21e]; exact (he17).size
  refine TL.done ?_
  refine NX.seq ?_
  refine WC.seq ?_
  refine WC.region ?_
  refine TL.yld rfl rfl (yld_fieldAddr rfl fo_32_0 rfl) ?_
  refine TL.yld rfl rfl (yld_load1 0 rfl ag_29 rfl (Box.cells hb8) rfl rfl) ?_
  obtain ⟨r26, hr27, hF⟩ := bsome hF
  refine TL.eff rfl rfl (eff_call rfl gf_58 rfl (W_laws_toLatchS hr27 ((slRep.old ha2 he24 (Nat.le_refl _)).wide (Nat.le_refl _) (he24).size))) ?_
  rintro v30 w28 ⟨_, rfl, hs31, hx29⟩
  have he34 : Ext w w28 := Ext.trans he24 hx29
  have hb8 := Box.ext hb8 hx29
  have hb15 := Box.ext hb15 hx29
  have hb22 := Box.ext hb22 hx29
  have hz35 := (hx29).size
  have hbd33 := ownR.blk hs31
  refine TL.yld rfl rfl (yld_fieldAddr rfl fo_38_0 rfl) ?_
  refine TL.eff rfl rfl (eff_store1 rfl rfl rfl hb22 cn_35 (slRep.cells (ownR.slf hs31 (Nat.le_refl _) (Nat.le_refl _))) (slRep.one (ownR.slf hs31 (Nat.le_refl _) (Nat.le_refl _))) rfl) ?_
  rintro _ w36 ⟨hu37, hb38⟩
  have he39 : Ext w w36 := Below.trans he34 (Upd.below hu37 (by omega))
  have hb8 := Box.upd hb8 hu37 (by omega)
  have hb15 := Box.upd hb15 hu37 (by omega)
  have hs31 := ownR.upd hs31 hu37 (fun g hg => by have := hbd33 g hg; omega)
  have hz40 := (hu37).size
  have hb22 : Box w36 b19 [v30, .slice none 0 0] 38 := hb38
  refine TL.done ?_
  refine NX.seq ?_
  refine WC.seq ?_
  refine WC.region ?_
  refine TL.yld rfl rfl (yld_fieldAddr rfl fo_32_1 rfl) ?_
  refine TL.yld rfl rfl (yld_load1 1 rfl ag_30 rfl (Box.cells hb8) rfl rfl) ?_
  obtain ⟨r41, hr42, hF⟩ := bsome hF
  refine TL.eff rfl rfl (eff_call rfl gf_59 rfl (W_laws_toLatchLinkS hr42 ((slRep.old ha4 he39 (Nat.le_refl _)).wide (Nat.le_refl _) (he39).size))) ?_
  rintro v45 w43 ⟨_, rfl, hs46, hx44⟩
  have he49 : Ext w w43 := Ext.trans he39 hx44
  have hb8 := Box.ext hb8 hx44
  have hb15 := Box.ext hb15 hx44
  have hb22 := Box.ext hb22 hx44
  have hs31 := ownR.ext hs31 hx44
  have hz50 := (hx44).size
  have hbd48 := ownR.blk hs46
  refine TL.yld rfl rfl (yld_fieldAddr rfl fo_38_1 rfl) ?_
  refine TL.eff rfl rfl (eff_store1 rfl rfl rfl hb22 cn_36 (slRep.cells (ownR.slf hs46 (Nat.le_refl _) (Nat.le_refl _))) (slRep.one (ownR.slf hs46 (Nat.le_refl _) (Nat.le_refl _))) rfl) ?_
  rintro _ w51 ⟨hu52, hb53⟩
  have he54 : Ext w w51 := Below.trans he49 (Upd.below hu52 (by omega))
  have hb8 := Box.upd hb8 hu52 (by omega)
  have hb15 := Box.upd hb15 hu52 (by omega)
  have hs31 := ownR.upd hs31 hu52 (fun g hg => by have := hbd33 g hg; omega)
  have hs46 := ownR.upd hs46 hu52 (fun g hg => by have := hbd48 g hg; omega)
  have hz55 := (hu52).size
  have hb22 : Box w51 b19 [v30, v45] 38 := hb53
  refine TL.done ?_
  refine NX.seq ?_
  refine WC.seq ?_
  refine WC.region ?_
  refine TL.yld rfl rfl (yld_loadN (us := [v30, v45]) rfl ag_38 rfl (Box.cells hb22) cn_38) ?_
  refine TL.eff rfl rfl (eff_store rfl rfl rfl hb15 cn_38 (allc_cons (slRep.one (ownR.slf hs31 (Nat.le_refl _) (Nat.le_refl _))) (allc_cons (slRep.one (ownR.slf hs46 (Nat.le_refl _) (Nat.le_refl _))) allc_nil)) rfl) ?_
  rintro _ w56 ⟨hu57, hb58⟩
  have he59 : Ext w w56 := Below.trans he54 (Upd.below hu57 (by omega))
  have hb8 := Box.upd hb8 hu57 (by omega)
  have hb22 := Box.upd hb22 hu57 (by omega)
  have hs31 := ownR.upd hs31 hu57 (fun g hg => by have := hbd33 g hg; omega)
  have hs46 := ownR.upd hs46 hu57 (fun g hg => by have := hbd48 g hg; omega)
  have hz60 := (hu57).size
  have hb15 : Box w56 b12 [v30, v45] 38 := hb58
  refine TL.done ?_
  refine NX.seq ?_
  refine WC.ret' ?_
  obtain rfl := Option.some.inj hF
  exact NX.end (rs := [.cell 2 38]) (vs := [.agg #[v30, v45]]) rfl ⟨⟨b12, rfl, box_load ag_38 cn_38 hb15⟩, trivial⟩ ⟨_, rfl, _, _, rfl, ownR.base hs31 (by omega), ownR.base hs46 (by omega), (fun g q hg hq => by have := hbd48 g hg; have := hbd33 q hq; omega), he59⟩

-- loop.example/g00861/laws.eqLatch
def F_laws_eqLatch (n : Nat) (a0_a : S_Latch) (a1_b : S_Latch) : Option Bool := (bif (a0_a.Open != a1_b.Open) then (some false) else (bif (a0_a.Close != a1_b.Close) then (some false) else (some true)))
set_option maxHeartbeats 4000000 in
theorem W_laws_eqLatch {n : Nat} {a0_a : S_Latch} {a1_b : S_Latch} {r : Bool} {w : World} (hF : F_laws_eqLatch n a0_a a1_b = some r) :
    Calls Try.prog 91 [.agg #[.int .i64 a0_a.Open, .int .i64 a0_a.Close], .agg #[.int .i64 a1_b.Open, .int .i64 a1_b.Close]].toArray w (Ret fun u w2 => u = .bool r ∧ Ext w w2) := by
  refine calls_of Try.func91 rfl Try.ntmps91 ?_
  have he0 : Ext w w := Ext.refl w
  unfold F_laws_eqLatch at hF
  refine WC.seq ?_
  refine WC.region ?_
  refine TL.eff rfl rfl (eff_box rfl rfl) ?_
  rintro _ w2 ⟨b1, rfl, hn3⟩
  obtain ⟨hn3e, hn3s, hn3x, hb4⟩ := hn3
  have hb4 : Box w2 b1 [.int .i64 a0_a.Open, .int .i64 a0_a.Close] 50 := hb4
  have he6 : Ext w w2 := Ext.trans he0 hn3x
  have hz7 := (hn3x).size
  have hlo5 : w.heap.size ≤ b1 := by rw [hn3e]; exact (he0).size
  refine TL.eff rfl rfl (eff_box rfl rfl) ?_
  rintro _ w9 ⟨b8, rfl, hn10⟩
  obtain ⟨hn10e, hn10s, hn10x, hb11⟩ := hn10
  have hb11 : Box w9 b8 [.int .i64 a1_b.Open, .int .i64 a1_b.Close] 50 := hb11
  have he13 : Ext w w9 := Ext.trans he6 hn10x
  have hb4 := Box.ext hb4 hn10x
  have hz14 := (hn10x).size
  have hlo12 : w.heap.size ≤ b8 := by rw [hn10e]; exact (he6).size
  refine TL.yld rfl rfl (yld_assign rfl rfl) ?_
  refine TL.done ?_
  refine NX.seq ?_
  refine WC.seq ?_
  refine WC.seq ?_
  refine WC.region ?_
  refine TL.yld rfl rfl (yld_fieldAddr rfl fo_50_0 rfl) ?_
  refine TL.yld rfl rfl (yld_load1 0 rfl ag_2 rfl (Box.cells hb4) rfl rfl) ?_
  refine TL.yld rfl rfl (yld_fieldAddr rfl fo_50_0 rfl) ?_
  refine TL.yld rfl rfl (yld_load1 0 rfl ag_2 rfl (Box.cells hb11) rfl rfl) ?_
  refine TL.yld rfl rfl (yld_neq rfl rfl rfl) ?_
  refine TL.done ?_
  refine NX.seq ?_
  refine WC.cond rfl ?_ ?_
  · intro hc15
    replace hF := bif_t hc15 hF
    refine WC.seq ?_
    refine WC.region ?_
    refine TL.yld rfl rfl (yld_assign rfl rfl) ?_
    refine TL.done ?_
    refine NX.seq ?_
    refine WC.ret' ?_
    refine NX.then_r ?_
    obtain rfl := Option.some.inj hF
    exact NX.end (rs := [.tmp 4]) (vs := [.bool false]) rfl ⟨rfl, trivial⟩ ⟨_, rfl, rfl, he13⟩
  · intro hc16
    replace hF := bif_f hc16 hF
    refine WC.skip' ?_
    refine NX.seq ?_
    refine WC.seq ?_
    refine WC.seq ?_
    refine WC.region ?_
    refine TL.yld rfl rfl (yld_fieldAddr rfl fo_50_1 rfl) ?_
    refine TL.yld rfl rfl (yld_load1 1 rfl ag_2 rfl (Box.cells hb4) rfl rfl) ?_
    refine TL.yld rfl rfl (yld_fieldAddr rfl fo_50_1 rfl) ?_
    refine TL.yld rfl rfl (yld_load1 1 rfl ag_2 rfl (Box.cells hb11) rfl rfl) ?_
    refine TL.yld rfl rfl (yld_neq rfl rfl rfl) ?_
    refine TL.done ?_
    refine NX.seq ?_
    refine WC.cond rfl ?_ ?_
    · intro hc17
      replace hF := bif_t hc17 hF
      refine WC.seq ?_
      refine WC.region ?_
      refine TL.yld rfl rfl (yld_assign rfl rfl) ?_
      refine TL.done ?_
      refine NX.seq ?_
      refine WC.ret' ?_
      refine NX.then_r ?_
      obtain rfl := Option.some.inj hF
      exact NX.end (rs := [.tmp 4]) (vs := [.bool false]) rfl ⟨rfl, trivial⟩ ⟨_, rfl, rfl, he13⟩
    · intro hc18
      replace hF := bif_f hc18 hF
      refine WC.skip' ?_
      refine NX.seq ?_
      refine WC.seq ?_
      refine WC.region ?_
      refine TL.yld rfl rfl (yld_assign rfl rfl) ?_
      refine TL.done ?_
      refine NX.seq ?_
      refine WC.ret' ?_
      obtain rfl := Option.some.inj hF
      exact NX.end (rs := [.tmp 4]) (vs := [.bool true]) rfl ⟨rfl, trivial⟩ ⟨_, rfl, rfl, he13⟩

-- loop.example/g00861/laws.eqLatchS
def F_laws_eqLatchS_L1 (n : Nat) (a0_a : List S_Latch) (a1_b : List S_Latch) (k0 : Int → Option Bool) : Nat → Int → Option Bool
  | 0 => fun _ => none
  | m + 1 => fun i9 => (bif decide (i9 < (a0_a.length : Int)) then (Option.bind (getI a0_a i9) fun x11 => (Option.bind (getI a1_b i9) fun x19 => (Option.bind (F_laws_eqLatch n x11 x19) fun r27 => (bif (!r27) then (some false) else (F_laws_eqLatchS_L1 n a0_a a1_b k0 m (IntKind.wrap IntKind.i64 (i9 + 1))))))) else (k0 i9))
theorem F_laws_eqLatchS_L1_z (n : Nat) (a0_a : List S_Latch) (a1_b : List S_Latch) (k0 : Int → Option Bool) (i9 : Int) : F_laws_eqLatchS_L1 n a0_a a1_b k0 0 i9 = none := rfl
theorem F_laws_eqLatchS_L1_s (m : Nat) (n : Nat) (a0_a : List S_Latch) (a1_b : List S_Latch) (k0 : Int → Option Bool) (i9 : Int) : F_laws_eqLatchS_L1 n a0_a a1_b k0 (m + 1) i9 = (bif decide (i9 < (a0_a.length : Int)) then (Option.bind (getI a0_a i9) fun x11 => (Option.bind (getI a1_b i9) fun x19 => (Option.bind (F_laws_eqLatch n x11 x19) fun r27 => (bif (!r27) then (some false) else (F_laws_eqLatchS_L1 n a0_a a1_b k0 m (IntKind.wrap IntKind.i64 (i9 + 1))))))) else (k0 i9)) := rfl

def F_laws_eqLatchS (n : Nat) (a0_a : List S_Latch) (a1_b : List S_Latch) : Option Bool := (bif (((a0_a.length : Int)) != ((a1_b.length : Int))) then (some false) else (F_laws_eqLatchS_L1 n a0_a a1_b (fun i9 => (some true)) n 0))
set_option maxHeartbeats 4000000 in
theorem W_laws_eqLatchS {n : Nat} {a0_a : List S_Latch} {a1_b : List S_Latch} {r : Bool} {w : World} {v1 : Value} {v3 : Value} (hF : F_laws_eqLatchS n a0_a a1_b = some r) (ha2 : slRep C_Latch w (Iv 0 w.heap.size) a0_a v1) (ha4 : slRep C_Latch w (Iv 0 w.heap.size) a1_b v3) :
    Calls Try.prog 62 [v1, v3].toArray w (Ret fun u w2 => u = .bool r ∧ Ext w w2) := by
  refine calls_of Try.func62 rfl Try.ntmps62 ?_
  have he0 : Ext w w := Ext.refl w
  unfold F_laws_eqLatchS at hF
  refine WC.seq ?_
  refine WC.region ?_
  refine TL.yld rfl rfl (yld_assign rfl rfl) ?_
  refine TL.done ?_
  refine NX.seq ?_
  refine WC.seq ?_
  refine WC.seq ?_
  refine WC.region ?_
  refine TL.yld rfl rfl (yld_move rfl rfl) ?_
  refine TL.yld rfl rfl (ye_len (c := C_Latch) rfl Try.underlying35 rfl (slRep.old ha2 he0 (Nat.le_refl _))) ?_
  refine TL.yld rfl rfl (yld_move rfl rfl) ?_
  refine TL.yld rfl rfl (ye_len (c := C_Latch) rfl Try.underlying35 rfl (slRep.old ha4 he0 (Nat.le_refl _))) ?_
  refine TL.yld rfl rfl (yld_neq rfl rfl rfl) ?_
  refine TL.done ?_
  refine NX.seq ?_
  refine WC.cond rfl ?_ ?_
  · intro hc5
    replace hF := bif_t hc5 hF
    refine WC.seq ?_
    refine WC.region ?_
    refine TL.yld rfl rfl (yld_assign rfl rfl) ?_
    refine TL.done ?_
    refine NX.seq ?_
    refine WC.ret' ?_
    refine NX.then_r ?_
    obtain rfl := Option.some.inj hF
    exact NX.end (rs := [.tmp 4]) (vs := [.bool false]) rfl ⟨rfl, trivial⟩ ⟨_, rfl, rfl, he0⟩
  · intro hc6
    replace hF := bif_f hc6 hF
    refine WC.skip' ?_
    refine NX.seq ?_
    refine WC.seq ?_
    refine WC.seq ?_
    refine WC.region ?_
    refine TL.yld rfl rfl (yld_assign rfl rfl) ?_
    refine TL.done ?_
    refine NX.seq ?_
    refine WC.block ?_
    refine WC.loop (fun m10 a wl => ∃ (i9 : Int), Kn 27 [(0, v1), (1, v3), (5, .int .i64 i9)] a ∧ Ext w wl ∧ w.heap.size ≤ wl.heap.size ∧ F_laws_eqLatchS_L1 n a0_a a1_b (fun i9 => (some true)) m10 i9 = some r) n ?_ ?_
    · intro a hK; exact ⟨0, hK.weaken ⟨rfl, rfl, rfl, trivial⟩, he0, Nat.le_refl _, hF⟩
    · rintro m10 a w7 ⟨i9, hK, he8, hz11, hF⟩
      revert hK; revert a; refine (?_ : WC _ _ _ _ _ _)
      cases m10 with
      | zero => rw [F_laws_eqLatchS_L1_z] at hF; cases hF
      | succ m10 =>
        rw [F_laws_eqLatchS_L1_s] at hF
        refine WC.seq ?_
        refine WC.seq ?_
        refine WC.region ?_
        refine TL.yld rfl rfl (yld_move rfl rfl) ?_
        refine TL.yld rfl rfl (yld_move rfl rfl) ?_
        refine TL.yld rfl rfl (ye_len (c := C_Latch) rfl Try.underlying35 rfl (slRep.old ha2 he8 (Nat.le_refl _))) ?_
        refine TL.yld rfl rfl (yld_lss rfl rfl rfl) ?_
        refine TL.done ?_
        refine NX.seq ?_
        refine WC.cond rfl ?_ ?_
        · intro hc12
          replace hF := bif_t hc12 hF
          refine WC.skip' ?_
          refine NX.seq ?_
          refine WC.seq ?_
          refine WC.block ?_
          refine WC.seq ?_
          refine WC.quiet Try.hm (by kernel_rfl) ?_
          refine QL.yld rfl rfl (Yld.qui (yld_move rfl rfl)) ?_
          refine QL.yld rfl rfl (Yld.qui (yld_move rfl rfl)) ?_
          obtain ⟨x13, hy14, hF⟩ := bsome hF
          refine QL.ye rfl rfl (ye_index (c := C_Latch) rfl Try.underlying35 cn_50 rfl rfl (slRep.old ha2 he8 (Nat.le_refl _)) hy14) ?_
          rintro _ ⟨b15, o16, us17, rfl, hib20, hr18, hcl19⟩
          have hib20 : 0 ≤ b15 ∧ b15 < w.heap.size := ⟨hib20.1, by have := hib20.2; omega⟩
          obtain rfl := C_Latch_open hr18
          refine QL.yld rfl rfl (Yld.qui (yld_loadN (us := [.int .i64 x13.Open, .int .i64 x13.Close]) rfl ag_50 rfl hcl19 cn_50)) ?_
          refine QL.yld rfl rfl (Yld.qui (yld_move rfl rfl)) ?_
          refine QL.yld rfl rfl (Yld.qui (yld_move rfl rfl)) ?_
          obtain ⟨x21, hy22, hF⟩ := bsome hF
          refine QL.ye rfl rfl (ye_index (c := C_Latch) rfl Try.underlying35 cn_50 rfl rfl (slRep.old ha4 he8 (Nat.le_refl _)) hy22) ?_
          rintro _ ⟨b23, o24, us25, rfl, hib28, hr26, hcl27⟩
          have hib28 : 0 ≤ b23 ∧ b23 < w.heap.size := ⟨hib28.1, by have := hib28.2; omega⟩
          obtain rfl := C_Latch_open hr26
          refine QL.yld rfl rfl (Yld.qui (yld_loadN (us := [.int .i64 x21.Open, .int .i64 x21.Close]) rfl ag_50 rfl hcl27 cn_50)) ?_
          obtain ⟨r29, hr30, hF⟩ := bsome hF
          refine QL.yld rfl rfl (qui_call rfl gf_91 rfl fun w' hw' => W_laws_eqLatch hr30) ?_
          refine QL.yld rfl rfl (Yld.qui (yld_not rfl rfl)) ?_
          refine QL.done fun w31 hx32 => ?_
          have he33 : Ext w w31 := Ext.trans he8 hx32
          have hz34 := (hx32).size
          refine NX.seq ?_
          refine WC.cond rfl ?_ ?_
          · intro hc35
            replace hF := bif_t hc35 hF
            refine WC.seq ?_
            refine WC.region ?_
            refine TL.yld rfl rfl (yld_assign rfl rfl) ?_
            refine TL.done ?_
            refine NX.seq ?_
            refine WC.ret' ?_
            refine NX.blk_r ?_
            refine NX.then_r ?_
            refine NX.then_r ?_
            refine NX.blk_r ?_
            refine NX.then_r ?_
            obtain rfl := Option.some.inj hF
            exact NX.end (rs := [.tmp 4]) (vs := [.bool false]) rfl ⟨rfl, trivial⟩ ⟨_, rfl, rfl, he33⟩
          · intro hc36
            replace hF := bif_f hc36 hF
            refine WC.skip' ?_
            refine NX.blk_n ?_
            refine NX.seq ?_
            refine WC.region ?_
            refine TL.yld rfl rfl (yld_move rfl rfl) ?_
            refine TL.yld rfl rfl (yld_add rfl rfl rfl) ?_
            refine TL.yld rfl rfl (yld_assign rfl rfl) ?_
            refine TL.done ?_
            refine NX.then_n ?_
            intro a hK; exact ⟨m10, Nat.lt_succ_self m10, (IntKind.wrap IntKind.i64 (i9 + 1)), hK.weaken ⟨rfl, rfl, rfl, trivial⟩, he33, (by omega), hF⟩
        · intro hc37
          replace hF := bif_f hc37 hF
          refine WC.exit' ?_
          refine NX.then_e ?_
          refine NX.then_e ?_
          refine NX.blk_hit ?_
          refine NX.seq ?_
          refine WC.seq ?_
          refine WC.region ?_
          refine TL.yld rfl rfl (yld_assign rfl rfl) ?_
          refine TL.done ?_
          refine NX.seq ?_
          refine WC.ret' ?_
          obtain rfl := Option.some.inj hF
          exact NX.end (rs := [.tmp 4]) (vs := [.bool true]) rfl ⟨rfl, trivial⟩ ⟨_, rfl, rfl, he8⟩

-- loop.example/g00861/laws.eqLatchLink
def F_laws_eqLatchLink (n : Nat) (a0_a : S_LatchLink) (a1_b : S_LatchLink) : Option Bool := (bif (a0_a.From != a1_b.From) then (some false) else (bif (a0_a.To != a1_b.To) then (some false) else (bif (a0_a.Delay != a1_b.Delay) then (some false) else (bif (a0_a.Shift != a1_b.Shift) then (some false) else (some true)))))
set_option maxHeartbeats 4000000 in
theorem W_laws_eqLatchLink {n : Nat} {a0_a : S_LatchLink} {a1_b : S_LatchLink} {r : Bool} {w : World} (hF : F_laws_eqLatchLink n a0_a a1_b = some r) :
    Calls Try.prog 92 [.agg #[.int .i64 a0_a.From, .int .i64 a0_a.To, .int .i64 a0_a.Delay, .int .i64 a0_a.Shift], .agg #[.int .i64 a1_b.From, .int .i64 a1_b.To, .int .i64 a1_b.Delay, .int .i64 a1_b.Shift]].toArray w (Ret fun u w2 => u = .bool r ∧ Ext w w2) := by
  refine calls_of Try.func92 rfl Try.ntmps92 ?_
  have he0 : Ext w w := Ext.refl w
  unfold F_laws_eqLatchLink at hF
  refine WC.seq ?_
  refine WC.region ?_
  refine TL.eff rfl rfl (eff_box rfl rfl) ?_
  rintro _ w2 ⟨b1, rfl, hn3⟩
  obtain ⟨hn3e, hn3s, hn3x, hb4⟩ := hn3
  have hb4 : Box w2 b1 [.int .i64 a0_a.From, .int .i64 a0_a.To, .int .i64 a0_a.Delay, .int .i64 a0_a.Shift] 77 := hb4
  have he6 : Ext w w2 := Ext.trans he0 hn3x
  have hz7 := (hn3x).size
  have hlo5 : w.heap.size ≤ b1 := by rw [hn3e]; exact (he0).size
  refine TL.eff rfl rfl (eff_box rfl rfl) ?_
  rintro _ w9 ⟨b8, rfl, hn10⟩
  obtain ⟨hn10e, hn10s, hn10x, hb11⟩ := hn10
  have hb11 : Box w9 b8 [.int .i64 a1_b.From, .int .i64 a1_b.To, .int .i64 a1_b.Delay, .int .i64 a1_b.Shift] 77 := hb11
  have he13 : Ext w w9 := Ext.trans he6 hn10x
  have hb4 := Box.ext hb4 hn10x
  have hz14 := (hn10x).size
  have hlo12 : w.heap.size ≤ b8 := by rw [hn10e]; exact (he6).size
  refine TL.yld rfl rfl (yld_assign rfl rfl) ?_
  refine TL.done ?_
  refine NX.seq ?_
  refine WC.seq ?_
  refine WC.seq ?_
  refine WC.region ?_
  refine TL.yld rfl rfl (yld_fieldAddr rfl fo_77_0 rfl) ?_
  refine TL.yld rfl rfl (yld_load1 0 rfl ag_2 rfl (Box.cells hb4) rfl rfl) ?_
  refine TL.yld rfl rfl (yld_fieldAddr rfl fo_77_0 rfl) ?_
  refine TL.yld rfl rfl (yld_load1 0 rfl ag_2 rfl (Box.cells hb11) rfl rfl) ?_
  refine TL.yld rfl rfl (yld_neq rfl rfl rfl) ?_
  refine TL.done ?_
  refine NX.seq ?_
  refine WC.cond rfl ?_ ?_
  · intro hc15
    replace hF := bif_t hc15 hF
    refine WC.seq ?_
    refine WC.region ?_
    refine TL.yld rfl rfl (yld_assign rfl rfl) ?_
    refine TL.done ?_
    refine NX.seq ?_
    refine WC.ret' ?_
    refine NX.then_r ?_
    obtain rfl := Option.some.inj hF
    exact NX.end (rs := [.tmp 4]) (vs := [.bool false]) rfl ⟨rfl, trivial⟩ ⟨_, rfl, rfl, he13⟩
  · intro hc16
    replace hF := bif_f hc16 hF
    refine WC.skip' ?_
    refine NX.seq ?_
    refine WC.seq ?_
    refine WC.seq ?_
    refine WC.region ?_
    refine TL.yld rfl rfl (yld_fieldAddr rfl fo_77_1 rfl) ?_
    refine TL.yld rfl rfl (yld_load1 1 rfl ag_2 rfl (Box.cells hb4) rfl rfl) ?_
    refine TL.yld rfl rfl (yld_fieldAddr rfl fo_77_1 rfl) ?_
    refine TL.yld rfl rfl (yld_load1 1 rfl ag_2 rfl (Box.cells hb11) rfl rfl) ?_
    refine TL.yld rfl rfl (yld_neq rfl rfl rfl) ?_
    refine TL.done ?_
    refine NX.seq ?_
    refine WC.cond rfl ?_ ?_
    · intro hc17
      replace hF := bif_t hc17 hF
      refine WC.seq ?_
      refine WC.region ?_
      refine TL.yld rfl rfl (yld_assign rfl rfl) ?_
      refine TL.done ?_
      refine NX.seq ?_
      refine WC.ret' ?_
      refine NX.then_r ?_
      obtain rfl := Option.some.inj hF
      exact NX.end (rs := [.tmp 4]) (vs := [.bool false]) rfl ⟨rfl, trivial⟩ ⟨_, rfl, rfl, he13⟩
    · intro hc18
      replace hF := bif_f hc18 hF
      refine WC.skip' ?_
      refine NX.seq ?_
      refine WC.seq ?_
      refine WC.seq ?_
      refine WC.region ?_
      refine TL.yld rfl rfl (yld_fieldAddr rfl fo_77_2 rfl) ?_
      refine TL.yld rfl rfl (yld_load1 2 rfl ag_2 rfl (Box.cells hb4) rfl rfl) ?_
      refine TL.yld rfl rfl (yld_fieldAddr rfl fo_77_2 rfl) ?_
      refine TL.yld rfl rfl (yld_load1 2 rfl ag_2 rfl (Box.cells hb11) rfl rfl) ?_
      refine TL.yld rfl rfl (yld_neq rfl rfl rfl) ?_
      refine TL.done ?_
      refine NX.seq ?_
      refine WC.cond rfl ?_ ?_
      · intro hc19
        replace hF := bif_t hc19 hF
        refine WC.seq ?_
        refine WC.region ?_
        refine TL.yld rfl rfl (yld_assign rfl rfl) ?_
        refine TL.done ?_
        refine NX.seq ?_
        refine WC.ret' ?_
        refine NX.then_r ?_
        obtain rfl := Option.some.inj hF
        exact NX.end (rs := [.tmp 4]) (vs := [.bool false]) rfl ⟨rfl, trivial⟩ ⟨_, rfl, rfl, he13⟩
      · intro hc20
        replace hF := bif_f hc20 hF
        refine WC.skip' ?_
        refine NX.seq ?_
        refine WC.seq ?_
        refine WC.seq ?_
        refine WC.region ?_
        refine TL.yld rfl rfl (yld_fieldAddr rfl fo_77_3 rfl) ?_
        refine TL.yld rfl rfl (yld_load1 3 rfl ag_2 rfl (Box.cells hb4) rfl rfl) ?_
        refine TL.yld rfl rfl (yld_fieldAddr rfl fo_77_3 rfl) ?_
        refine TL.yld rfl rfl (yld_load1 3 rfl ag_2 rfl (Box.cells hb11) rfl rfl) ?_
        refine TL.yld rfl rfl (yld_neq rfl rfl rfl) ?_
        refine TL.done ?_
        refine NX.seq ?_
        refine WC.cond rfl ?_ ?_
        · intro hc21
          replace hF := bif_t hc21 hF
          refine WC.seq ?_
          refine WC.region ?_
          refine TL.yld rfl rfl (yld_assign rfl rfl) ?_
          refine TL.done ?_
          refine NX.seq ?_
          refine WC.ret' ?_
          refine NX.then_r ?_
          obtain rfl := Option.some.inj hF
          exact NX.end (rs := [.tmp 4]) (vs := [.bool false]) rfl ⟨rfl, trivial⟩ ⟨_, rfl, rfl, he13⟩
        · intro hc22
          replace hF := bif_f hc22 hF
          refine WC.skip' ?_
          refine NX.seq ?_
          refine WC.seq ?_
          refine WC.region ?_
          refine TL.yld rfl rfl (yld_assign rfl rfl) ?_
          refine TL.done ?_
          refine NX.seq ?_
          refine WC.ret' ?_
          obtain rfl := Option.some.inj hF
          exact NX.end (rs := [.tmp 4]) (vs := [.bool true]) rfl ⟨rfl, trivial⟩ ⟨_, rfl, rfl, he13⟩

-- loop.example/g00861/laws.eqLatchLinkS
def F_laws_eqLatchLinkS_L1 (n : Nat) (a0_a : List S_LatchLink) (a1_b : List S_LatchLink) (k0 : Int → Option Bool) : Nat → Int → Option Bool
  | 0 => fun _ => none
  | m + 1 => fun i9 => (bif decide (i9 < (a0_a.length : Int)) then (Option.bind (getI a0_a i9) fun x11 => (Option.bind (getI a1_b i9) fun x19 => (Option.bind (F_laws_eqLatchLink n x11 x19) fun r27 => (bif (!r27) then (some false) else (F_laws_eqLatchLinkS_L1 n a0_a a1_b k0 m (IntKind.wrap IntKind.i64 (i9 + 1))))))) else (k0 i9))
theorem F_laws_eqLatchLinkS_L1_z (n : Nat) (a0_a : List S_LatchLink) (a1_b : List S_LatchLink) (k0 : Int → Option Bool) (i9 : Int) : F_laws_eqLatchLinkS_L1 n a0_a a1_b k0 0 i9 = none := rfl
theorem F_laws_eqLatchLinkS_L1_s (m : Nat) (n : Nat) (a0_a : List S_LatchLink) (a1_b : List S_LatchLink) (k0 : Int → Option Bool) (i9 : Int) : F_laws_eqLatchLinkS_L1 n a0_a a1_b k0 (m + 1) i9 = (bif decide (i9 < (a0_a.length : Int)) then (Option.bind (getI a0_a i9) fun x11 => (Option.bind (getI a1_b i9) fun x19 => (Option.bind (F_laws_eqLatchLink n x11 x19) fun r27 => (bif (!r27) then (some false) else (F_laws_eqLatchLinkS_L1 n a0_a a1_b k0 m (IntKind.wrap IntKind.i64 (i9 + 1))))))) else (k0 i9)) := rfl

def F_laws_eqLatchLinkS (n : Nat) (a0_a : List S_LatchLink) (a1_b : List S_LatchLink) : Option Bool := (bif (((a0_a.length : Int)) != ((a1_b.length : Int))) then (some false) else (F_laws_eqLatchLinkS_L1 n a0_a a1_b (fun i9 => (some true)) n 0))
set_option maxHeartbeats 4000000 in
theorem W_laws_eqLatchLinkS {n : Nat} {a0_a : List S_LatchLink} {a1_b : List S_LatchLink} {r : Bool} {w : World} {v1 : Value} {v3 : Value} (hF : F_laws_eqLatchLinkS n a0_a a1_b = some r) (ha2 : slRep C_LatchLink w (Iv 0 w.heap.size) a0_a v1) (ha4 : slRep C_LatchLink w (Iv 0 w.heap.size) a1_b v3) :
    Calls Try.prog 63 [v1, v3].toArray w (Ret fun u w2 => u = .bool r ∧ Ext w w2) := by
  refine calls_of Try.func63 rfl Try.ntmps63 ?_
  have he0 : Ext w w := Ext.refl w
  unfold F_laws_eqLatchLinkS at hF
  refine WC.seq ?_
  refine WC.region ?_
  refine TL.yld rfl rfl (yld_assign rfl rfl) ?_
  refine TL.done ?_
  refine NX.seq ?_
  refine WC.seq ?_
  refine WC.seq ?_
  refine WC.region ?_
  refine TL.yld rfl rfl (yld_move rfl rfl) ?_
  refine TL.yld rfl rfl (ye_len (c := C_LatchLink) rfl Try.underlying36 rfl (slRep.old ha2 he0 (Nat.le_refl _))) ?_
  refine TL.yld rfl rfl (yld_move rfl rfl) ?_
  refine TL.yld rfl rfl (ye_len (c := C_LatchLink) rfl Try.underlying36 rfl (slRep.old ha4 he0 (Nat.le_refl _))) ?_
  refine TL.yld rfl rfl (yld_neq rfl rfl rfl) ?_
  refine TL.done ?_
  refine NX.seq ?_
  refine WC.cond rfl ?_ ?_
  · intro hc5
    replace hF := bif_t hc5 hF
    refine WC.seq ?_
    refine WC.region ?_
    refine TL.yld rfl rfl (yld_assign rfl rfl) ?_
    refine TL.done ?_
    refine NX.seq ?_
    refine WC.ret' ?_
    refine NX.then_r ?_
    obtain rfl := Option.some.inj hF
    exact NX.end (rs := [.tmp 4]) (vs := [.bool false]) rfl ⟨rfl, trivial⟩ ⟨_, rfl, rfl, he0⟩
  · intro hc6
    replace hF := bif_f hc6 hF
    refine WC.skip' ?_
    refine NX.seq ?_
    refine WC.seq ?_
    refine WC.seq ?_
    refine WC.region ?_
    refine TL.yld rfl rfl (yld_assign rfl rfl) ?_
    refine TL.done ?_
    refine NX.seq ?_
    refine WC.block ?_
    refine WC.loop (fun m10 a wl => ∃ (i9 : Int), Kn 27 [(0, v1), (1, v3), (5, .int .i64 i9)] a ∧ Ext w wl ∧ w.heap.size ≤ wl.heap.size ∧ F_laws_eqLatchLinkS_L1 n a0_a a1_b (fun i9 => (some true)) m10 i9 = some r) n ?_ ?_
    · intro a hK; exact ⟨0, hK.weaken ⟨rfl, rfl, rfl, trivial⟩, he0, Nat.le_refl _, hF⟩
    · rintro m10 a w7 ⟨i9, hK, he8, hz11, hF⟩
      revert hK; revert a; refine (?_ : WC _ _ _ _ _ _)
      cases m10 with
      | zero => rw [F_laws_eqLatchLinkS_L1_z] at hF; cases hF
      | succ m10 =>
        rw [F_laws_eqLatchLinkS_L1_s] at hF
        refine WC.seq ?_
        refine WC.seq ?_
        refine WC.region ?_
        refine TL.yld rfl rfl (yld_move rfl rfl) ?_
        refine TL.yld rfl rfl (yld_move rfl rfl) ?_
        refine TL.yld rfl rfl (ye_len (c := C_LatchLink) rfl Try.underlying36 rfl (slRep.old ha2 he8 (Nat.le_refl _))) ?_
        refine TL.yld rfl rfl (yld_lss rfl rfl rfl) ?_
        refine TL.done ?_
        refine NX.seq ?_
        refine WC.cond rfl ?_ ?_
        · intro hc12
          replace hF := bif_t hc12 hF
          refine WC.skip' ?_
          refine NX.seq ?_
          refine WC.seq ?_
          refine WC.block ?_
          refine WC.seq ?_
          refine WC.quiet Try.hm (by kernel_rfl) ?_
          refine QL.yld rfl rfl (Yld.qui (yld_move rfl rfl)) ?_
          refine QL.yld rfl rfl (Yld.qui (yld_move rfl rfl)) ?_
          obtain ⟨x13, hy14, hF⟩ := bsome hF
          refine QL.ye rfl rfl (ye_index (c := C_LatchLink) rfl Try.underlying36 cn_77 rfl rfl (slRep.old ha2 he8 (Nat.le_refl _)) hy14) ?_
          rintro _ ⟨b15, o16, us17, rfl, hib20, hr18, hcl19⟩
          have hib20 : 0 ≤ b15 ∧ b15 < w.heap.size := ⟨hib20.1, by have := hib20.2; omega⟩
          obtain rfl := C_LatchLink_open hr18
          refine QL.yld rfl rfl (Yld.qui (yld_loadN (us := [.int .i64 x13.From, .int .i64 x13.To, .int .i64 x13.Delay, .int .i64 x13.Shift]) rfl ag_77 rfl hcl19 cn_77)) ?_
          refine QL.yld rfl rfl (Yld.qui (yld_move rfl rfl)) ?_
          refine QL.yld rfl rfl (Yld.qui (yld_move rfl rfl)) ?_
          obtain ⟨x21, hy22, hF⟩ := bsome hF
          refine QL.ye rfl rfl (ye_index (c := C_LatchLink) rfl Try.underlying36 cn_77 rfl rfl (slRep.old ha4 he8 (Nat.le_refl _)) hy22) ?_
          rintro _ ⟨b23, o24, us25, rfl, hib28, hr26, hcl27⟩
          have hib28 : 0 ≤ b23 ∧ b23 < w.heap.size := ⟨hib28.1, by have := hib28.2; omega⟩
          obtain rfl := C_LatchLink_open hr26
          refine QL.yld rfl rfl (Yld.qui (yld_loadN (us := [.int .i64 x21.From, .int .i64 x21.To, .int .i64 x21.Delay, .int .i64 x21.Shift]) rfl ag_77 rfl hcl27 cn_77)) ?_
          obtain ⟨r29, hr30, hF⟩ := bsome hF
          refine QL.yld rfl rfl (qui_call rfl gf_92 rfl fun w' hw' => W_laws_eqLatchLink hr30) ?_
          refine QL.yld rfl rfl (Yld.qui (yld_not rfl rfl)) ?_
          refine QL.done fun w31 hx32 => ?_
          have he33 : Ext w w31 := Ext.trans he8 hx32
          have hz34 := (hx32).size
          refine NX.seq ?_
          refine WC.cond rfl ?_ ?_
          · intro hc35
            replace hF := bif_t hc35 hF
            refine WC.seq ?_
            refine WC.region ?_
            refine TL.yld rfl rfl (yld_assign rfl rfl) ?_
            refine TL.done ?_
            refine NX.seq ?_
            refine WC.ret' ?_
            refine NX.blk_r ?_
            refine NX.then_r ?_
            refine NX.then_r ?_
            refine NX.blk_r ?_
            refine NX.then_r ?_
            obtain rfl := Option.some.inj hF
            exact NX.end (rs := [.tmp 4]) (vs := [.bool false]) rfl ⟨rfl, trivial⟩ ⟨_, rfl, rfl, he33⟩
          · intro hc36
            replace hF := bif_f hc36 hF
            refine WC.skip' ?_
            refine NX.blk_n ?_
            refine NX.seq ?_
            refine WC.region ?_
            refine TL.yld rfl rfl (yld_move rfl rfl) ?_
            refine TL.yld rfl rfl (yld_add rfl rfl rfl) ?_
            refine TL.yld rfl rfl (yld_assign rfl rfl) ?_
            refine TL.done ?_
            refine NX.then_n ?_
            intro a hK; exact ⟨m10, Nat.lt_succ_self m10, (IntKind.wrap IntKind.i64 (i9 + 1)), hK.weaken ⟨rfl, rfl, rfl, trivial⟩, he33, (by omega), hF⟩
        · intro hc37
          replace hF := bif_f hc37 hF
          refine WC.exit' ?_
          refine NX.then_e ?_
          refine NX.then_e ?_
          refine NX.blk_hit ?_
          refine NX.seq ?_
          refine WC.seq ?_
          refine WC.region ?_
          refine TL.yld rfl rfl (yld_assign rfl rfl) ?_
          refine TL.done ?_
          refine NX.seq ?_
          refine WC.ret' ?_
          obtain rfl := Option.some.inj hF
          exact NX.end (rs := [.tmp 4]) (vs := [.bool true]) rfl ⟨rfl, trivial⟩ ⟨_, rfl, rfl, he8⟩

-- loop.example/g00861/laws.eqLatchSystem
def F_laws_eqLatchSystem (n : Nat) (a0_a : S_LatchSystem) (a1_b : S_LatchSystem) : Option Bool := (Option.bind (F_laws_eqLatchS n a0_a.Latches a1_b.Latches) fun r23 => (bif (!r23) then (some false) else (Option.bind (F_laws_eqLatchLinkS n a0_a.Links a1_b.Links) fun r31 => (bif (!r31) then (some false) else (some true)))))
set_option maxHeartbeats 4000000 in
theorem W_laws_eqLatchSystem {n : Nat} {a0_a : S_LatchSystem} {a1_b : S_LatchSystem} {r : Bool} {w : World} {v1 : Value} {v3 : Value} {v5 : Value} {v7 : Value} (hF : F_laws_eqLatchSystem n a0_a a1_b = some r) (ha2 : slRep C_Latch w (Iv 0 w.heap.size) a0_a.Latches v1) (ha4 : slRep C_LatchLink w (Iv 0 w.heap.size) a0_a.Links v3) (ha6 : slRep C_Latch w (Iv 0 w.heap.size) a1_b.Latches v5) (ha8 : slRep C_LatchLink w (Iv 0 w.heap.size) a1_b.Links v7) :
    Calls Try.prog 22 [.agg #[v1, v3], .agg #[v5, v7]].toArray w (Ret fun u w2 => u = .bool r ∧ Ext w w2) := by
  refine calls_of Try.func22 rfl Try.ntmps22 ?_
  have he0 : Ext w w := Ext.refl w
  unfold F_laws_eqLatchSystem at hF
  refine WC.seq ?_
  refine WC.region ?_
  refine TL.eff rfl rfl (eff_box rfl rfl) ?_
  rintro _ w10 ⟨b9, rfl, hn11⟩
  obtain ⟨hn11e, hn11s, hn11x, hb12⟩ := hn11
  have hb12 : Box w10 b9 [v1, v3] 38 := hb12
  have he14 : Ext w w10 := Ext.trans he0 hn11x
  have hz15 := (hn11x).size
  have hlo13 : w.heap.size ≤ b9 := by rw [hn11e]; exact (he0).size
  refine TL.eff rfl rfl (eff_box rfl rfl) ?_
  rintro _ w17 ⟨b16, rfl, hn18⟩
  obtain ⟨hn18e, hn18s, hn18x, hb19⟩ := hn18
  have hb19 : Box w17 b16 [v5, v7] 38 := hb19
  have he21 : Ext w w17 := Ext.trans he14 hn18x
  have hb12 := Box.ext hb12 hn18x
  have hz22 := (hn18x).size
  have hlo20 : w.heap.size ≤ b16 := by rw [hn18e]; exact (he14).size
  refine TL.yld rfl rfl (yld_assign rfl rfl) ?_
  refine TL.done ?_
  refine NX.seq ?_
  refine WC.seq ?_
  refine WC.seq ?_
  refine WC.region ?_
  refine TL.yld rfl rfl (yld_fieldAddr rfl fo_38_0 rfl) ?_
  refine TL.yld rfl rfl (yld_load1 0 rfl ag_35 rfl (Box.cells hb12) rfl rfl) ?_
  refine TL.yld rfl rfl (yld_fieldAddr rfl fo_38_0 rfl) ?_
  refine TL.yld rfl rfl (yld_load1 0 rfl ag_35 rfl (Box.cells hb19) rfl rfl) ?_
  obtain ⟨r23, hr24, hF⟩ := bsome hF
  refine TL.eff rfl rfl (eff_call rfl gf_62 rfl (W_laws_eqLatchS hr24 ((slRep.old ha2 he21 (Nat.le_refl _)).wide (Nat.le_refl _) (he21).size) ((slRep.old ha6 he21 (Nat.le_refl _)).wide (Nat.le_refl _) (he21).size))) ?_
  rintro _ w25 ⟨rfl, hx26⟩
  have he27 : Ext w w25 := Ext.trans he21 hx26
  have hb12 := Box.ext hb12 hx26
  have hb19 := Box.ext hb19 hx26
  have hz28 := (hx26).size
  refine TL.yld rfl rfl (yld_not rfl rfl) ?_
  refine TL.done ?_
  refine NX.seq ?_
  refine WC.cond rfl ?_ ?_
  · intro hc29
    replace hF := bif_t hc29 hF
    refine WC.seq ?_
    refine WC.region ?_
    refine TL.yld rfl rfl (yld_assign rfl rfl) ?_
    refine TL.done ?_
    refine NX.seq ?_
    refine WC.ret' ?_
    refine NX.then_r ?_
    obtain rfl := Option.some.inj hF
    exact NX.end (rs := [.tmp 4]) (vs := [.bool false]) rfl ⟨rfl, trivial⟩ ⟨_, rfl, rfl, he27⟩
  · intro hc30
    replace hF := bif_f hc30 hF
    refine WC.skip' ?_
    refine NX.seq ?_
    refine WC.seq ?_
    refine WC.seq ?_
    refine WC.region ?_
    refine TL.yld rfl rfl (yld_fieldAddr rfl fo_38_1 rfl) ?_
    refine TL.yld rfl rfl (yld_load1 1 rfl ag_36 rfl (Box.cells hb12) rfl rfl) ?_
    refine TL.yld rfl rfl (yld_fieldAddr rfl fo_38_1 rfl) ?_
    refine TL.yld rfl rfl (yld_load1 1 rfl ag_36 rfl (Box.cells hb19) rfl rfl) ?_
    obtain ⟨r31, hr32, hF⟩ := bsome hF
    refine TL.eff rfl rfl (eff_call rfl gf_63 rfl (W_laws_eqLatchLinkS hr32 ((slRep.old ha4 he27 (Nat.le_refl _)).wide (Nat.le_refl _) (he27).size) ((slRep.old ha8 he27 (Nat.le_refl _)).wide (Nat.le_refl _) (he27).size))) ?_
    rintro _ w33 ⟨rfl, hx34⟩
    have he35 : Ext w w33 := Ext.trans he27 hx34
    have hb12 := Box.ext hb12 hx34
    have hb19 := Box.ext hb19 hx34
    have hz36 := (hx34).size
    refine TL.yld rfl rfl (yld_not rfl rfl) ?_
    refine TL.done ?_
    refine NX.seq ?_
    refine WC.cond rfl ?_ ?_
    · intro hc37
      replace hF := bif_t hc37 hF
      refine WC.seq ?_
      refine WC.region ?_
      refine TL.yld rfl rfl (yld_assign rfl rfl) ?_
      refine TL.done ?_
      refine NX.seq ?_
      refine WC.ret' ?_
      refine NX.then_r ?_
      obtain rfl := Option.some.inj hF
      exact NX.end (rs := [.tmp 4]) (vs := [.bool false]) rfl ⟨rfl, trivial⟩ ⟨_, rfl, rfl, he35⟩
    · intro hc38
      replace hF := bif_f hc38 hF
      refine WC.skip' ?_
      refine NX.seq ?_
      refine WC.seq ?_
      refine WC.region ?_
      refine TL.yld rfl rfl (yld_assign rfl rfl) ?_
      refine TL.done ?_
      refine NX.seq ?_
      refine WC.ret' ?_
      obtain rfl := Option.some.inj hF
      exact NX.end (rs := [.tmp 4]) (vs := [.bool true]) rfl ⟨rfl, trivial⟩ ⟨_, rfl, rfl, he35⟩

-- loop.example/g00861/spec.l01In
def F_spec_l01In (n : Nat) (a0_n : Int) (a1_low : Int) (a2_high : Int) : Option Bool := (some (((decide (a0_n ≥ a1_low)) && (decide (a0_n ≤ a2_high)))))
set_option maxHeartbeats 4000000 in
theorem W_spec_l01In {n : Nat} {a0_n : Int} {a1_low : Int} {a2_high : Int} {r : Bool} {w : World} (hF : F_spec_l01In n a0_n a1_low a2_high = some r) :
    Calls Try.prog 57 [.int .i64 a0_n, .int .i64 a1_low, .int .i64 a2_high].toArray w (Ret fun u w2 => u = .bool r ∧ Ext w w2) := by
  refine calls_of Try.func57 rfl Try.ntmps57 ?_
  have he0 : Ext w w := Ext.refl w
  unfold F_spec_l01In at hF
  refine WC.seq ?_
  refine WC.region ?_
  refine TL.yld rfl rfl (yld_assign rfl rfl) ?_
  refine TL.done ?_
  refine NX.seq ?_
  refine WC.seq ?_
  refine WC.region ?_
  refine TL.yld rfl rfl (yld_move rfl rfl) ?_
  refine TL.yld rfl rfl (yld_move rfl rfl) ?_
  refine TL.yld rfl rfl (yld_geq rfl rfl rfl) ?_
  refine TL.yld rfl rfl (yld_move rfl rfl) ?_
  refine TL.cut 4 [(14, .bool (((decide (a0_n ≥ a1_low)) && (decide (a0_n ≤ a2_high)))))] (fun w' => Ext w w') ?_ ?_
  · rcases Bool.eq_false_or_eq_true (decide (a0_n ≥ a1_low)) with hg1 | hg1
    ·
      refine TL.gy (j := 3) (t := 10) rfl rfl rfl hg1 rfl (yld_move rfl rfl) ?_
      refine TL.gy (j := 3) (t := 10) rfl rfl rfl hg1 rfl (yld_move rfl rfl) ?_
      refine TL.gy (j := 3) (t := 10) rfl rfl rfl hg1 rfl (yld_leq rfl rfl rfl) ?_
      refine TL.yld rfl rfl (yld_and_t rfl rfl hg1 rfl) ?_
      exact TL.nil fun a h => ⟨h.weaken ⟨rfl, trivial⟩, Ext.refl _⟩
    ·
      refine TL.gnu (j := 3) (t := 10) rfl rfl rfl hg1 rfl ?_
      refine TL.gnu (j := 3) (t := 10) rfl rfl rfl hg1 rfl ?_
      refine TL.gnu (j := 3) (t := 10) rfl rfl rfl hg1 rfl ?_
      refine TL.yld rfl rfl (yld_and_f (b2 := decide (a0_n ≤ a2_high)) rfl rfl hg1 rfl) ?_
      exact TL.nil fun a h => ⟨h.weaken ⟨rfl, trivial⟩, Ext.refl _⟩
  intro w2 hx3
  have he4 : Ext w w2 := Ext.trans he0 hx3
  have hz5 := (hx3).size
  refine TL.yld rfl rfl (yld_assign rfl rfl) ?_
  refine TL.done ?_
  refine NX.seq ?_
  refine WC.ret' ?_
  obtain rfl := Option.some.inj hF
  exact NX.end (rs := [.tmp 6]) (vs := [.bool (((decide (a0_n ≥ a1_low)) && (decide (a0_n ≤ a2_high))))]) rfl ⟨rfl, trivial⟩ ⟨_, rfl, rfl, he4⟩

-- loop.example/g00861/spec.IsLatchSystem
def F_spec_IsLatchSystem_L2 (n : Nat) (a0_s : S_LatchSystem) (k2 : Int → Option Bool) : Nat → Int → Option Bool
  | 0 => fun _ => none
  | m + 1 => fun i18 => (bif decide (i18 < (a0_s.Links.length : Int)) then (Option.bind (getI a0_s.Links i18) fun x21 => (Option.bind (F_spec_l01In n x21.From 0 (IntKind.wrap IntKind.i64 (((a0_s.Latches.length : Int)) - 1))) fun r41 => (Option.bind (bif (!r41) then (some true) else (Option.bind (F_spec_l01In n x21.To 0 (IntKind.wrap IntKind.i64 (((a0_s.Latches.length : Int)) - 1))) fun r47 => (some (!r47)))) fun c47 => (Option.bind (bif c47 then (some true) else (Option.bind (F_spec_l01In n x21.Delay 0 100000) fun r60 => (some (!r60)))) fun c60 => (Option.bind (bif c60 then (some true) else (Option.bind (F_spec_l01In n x21.Shift 0 100000) fun r73 => (some (!r73)))) fun c73 => (bif c73 then (some false) else (F_spec_IsLatchSystem_L2 n a0_s k2 m (IntKind.wrap IntKind.i64 (i18 + 1))))))))) else (k2 i18))
theorem F_spec_IsLatchSystem_L2_z (n : Nat) (a0_s : S_LatchSystem) (k2 : Int → Option Bool) (i18 : Int) : F_spec_IsLatchSystem_L2 n a0_s k2 0 i18 = none := rfl
theorem F_spec_IsLatchSystem_L2_s (m : Nat) (n : Nat) (a0_s : S_LatchSystem) (k2 : Int → Option Bool) (i18 : Int) : F_spec_IsLatchSystem_L2 n a0_s k2 (m + 1) i18 = (bif decide (i18 < (a0_s.Links.length : Int)) then (Option.bind (getI a0_s.Links i18) fun x21 => (Option.bind (F_spec_l01In n x21.From 0 (IntKind.wrap IntKind.i64 (((a0_s.Latches.length : Int)) - 1))) fun r41 => (Option.bind (bif (!r41) then (some true) else (Option.bind (F_spec_l01In n x21.To 0 (IntKind.wrap IntKind.i64 (((a0_s.Latches.length : Int)) - 1))) fun r47 => (some (!r47)))) fun c47 => (Option.bind (bif c47 then (some true) else (Option.bind (F_spec_l01In n x21.Delay 0 100000) fun r60 => (some (!r60)))) fun c60 => (Option.bind (bif c60 then (some true) else (Option.bind (F_spec_l01In n x21.Shift 0 100000) fun r73 => (some (!r73)))) fun c73 => (bif c73 then (some false) else (F_spec_IsLatchSystem_L2 n a0_s k2 m (IntKind.wrap IntKind.i64 (i18 + 1))))))))) else (k2 i18)) := rfl

def F_spec_IsLatchSystem_L1 (n : Nat) (a0_s : S_LatchSystem) (k0 : Int → Option Bool) : Nat → Int → Option Bool
  | 0 => fun _ => none
  | m + 1 => fun i14 => (bif decide (i14 < (a0_s.Latches.length : Int)) then (Option.bind (getI a0_s.Latches i14) fun x17 => (Option.bind (F_spec_l01In n x17.Open 0 100000) fun r37 => (Option.bind (bif (!r37) then (some true) else (Option.bind (F_spec_l01In n x17.Close x17.Open 100000) fun r43 => (some (!r43)))) fun c43 => (bif c43 then (some false) else (F_spec_IsLatchSystem_L1 n a0_s k0 m (IntKind.wrap IntKind.i64 (i14 + 1))))))) else (k0 i14))
theorem F_spec_IsLatchSystem_L1_z (n : Nat) (a0_s : S_LatchSystem) (k0 : Int → Option Bool) (i14 : Int) : F_spec_IsLatchSystem_L1 n a0_s k0 0 i14 = none := rfl
theorem F_spec_IsLatchSystem_L1_s (m : Nat) (n : Nat) (a0_s : S_LatchSystem) (k0 : Int → Option Bool) (i14 : Int) : F_spec_IsLatchSystem_L1 n a0_s k0 (m + 1) i14 = (bif decide (i14 < (a0_s.Latches.length : Int)) then (Option.bind (getI a0_s.Latches i14) fun x17 => (Option.bind (F_spec_l01In n x17.Open 0 100000) fun r37 => (Option.bind (bif (!r37) then (some true) else (Option.bind (F_spec_l01In n x17.Close x17.Open 100000) fun r43 => (some (!r43)))) fun c43 => (bif c43 then (some false) else (F_spec_IsLatchSystem_L1 n a0_s k0 m (IntKind.wrap IntKind.i64 (i14 + 1))))))) else (k0 i14)) := rfl

def F_spec_IsLatchSystem (n : Nat) (a0_s : S_LatchSystem) : Option Bool := (F_spec_IsLatchSystem_L1 n a0_s (fun i14 => (F_spec_IsLatchSystem_L2 n a0_s (fun i18 => (some (((decide ((a0_s.Latches.length : Int) ≤ 12)) && (decide ((a0_s.Links.length : Int) ≤ 60)))))) n 0)) n 0)
set_option maxHeartbeats 4000000 in
theorem W_spec_IsLatchSystem {n : Nat} {a0_s : S_LatchSystem} {r : Bool} {w : World} {v1 : Value} {v3 : Value} (hF : F_spec_IsLatchSystem n a0_s = some r) (ha2 : slRep C_Latch w (Iv 0 w.heap.size) a0_s.Latches v1) (ha4 : slRep C_LatchLink w (Iv 0 w.heap.size) a0_s.Links v3) :
    Calls Try.prog 19 [.agg #[v1, v3]].toArray w (Ret fun u w2 => u = .bool r ∧ Ext w w2) := by
  refine calls_of Try.func19 rfl Try.ntmps19 ?_
  have he0 : Ext w w := Ext.refl w
  unfold F_spec_IsLatchSystem at hF
  refine WC.seq ?_
  refine WC.region ?_
  refine TL.eff rfl rfl (eff_box rfl rfl) ?_
  rintro _ w6 ⟨b5, rfl, hn7⟩
  obtain ⟨hn7e, hn7s, hn7x, hb8⟩ := hn7
  have hb8 : Box w6 b5 [v1, v3] 38 := hb8
  have he10 : Ext w w6 := Ext.trans he0 hn7x
  have hz11 := (hn7x).size
  have hlo9 : w.heap.size ≤ b5 := by rw [hn7e]; exact (he0).size
  refine TL.yld rfl rfl (yld_assign rfl rfl) ?_
  refine TL.done ?_
  refine NX.seq ?_
  refine WC.seq ?_
  refine WC.region ?_
  refine TL.yld rfl rfl (yld_fieldAddr rfl fo_38_0 rfl) ?_
  refine TL.yld rfl rfl (yld_load1 0 rfl ag_35 rfl (Box.cells hb8) rfl rfl) ?_
  refine TL.yld rfl rfl (ye_len (c := C_Latch) rfl Try.underlying35 rfl (slRep.old ha2 he10 (Nat.le_refl _))) ?_
  refine TL.yld rfl rfl (yld_assign rfl rfl) ?_
  refine TL.done ?_
  refine NX.seq ?_
  refine WC.seq ?_
  refine WC.seq ?_
  refine WC.region ?_
  refine TL.yld rfl rfl (yld_assign rfl rfl) ?_
  refine TL.done ?_
  refine NX.seq ?_
  refine WC.block ?_
  refine WC.loop (fun m16 a wl => ∃ (i14 : Int), Kn 83 [(1, .pointer (some ⟨b5, 0, none⟩)), (3, .int .i64 ((a0_s.Latches.length : Int))), (4, .int .i64 i14)] a ∧ Ext w wl ∧ w6.heap.size ≤ wl.heap.size ∧ Box wl b5 [v1, v3] 38 ∧ F_spec_IsLatchSystem_L1 n a0_s (fun i14 => (F_spec_IsLatchSystem_L2 n a0_s (fun i18 => (some (((decide ((a0_s.Latches.length : Int) ≤ 12)) && (decide ((a0_s.Links.length : Int) ≤ 60)))))) n 0)) m16 i14 = some r) n ?_ ?_
  · intro a hK; exact ⟨0, hK.weaken ⟨rfl, rfl, rfl, trivial⟩, he10, Nat.le_refl _, hb8, hF⟩
  · rintro m16 a w12 ⟨i14, hK, he13, hz17, hb15, hF⟩
    revert hK; revert a; refine (?_ : WC _ _ _ _ _ _)
    cases m16 with
    | zero => rw [F_spec_IsLatchSystem_L1_z] at hF; cases hF
    | succ m16 =>
      rw [F_spec_IsLatchSystem_L1_s] at hF
      refine WC.seq ?_
      refine WC.seq ?_
      refine WC.region ?_
      refine TL.yld rfl rfl (yld_move rfl rfl) ?_
      refine TL.yld rfl rfl (yld_fieldAddr rfl fo_38_0 rfl) ?_
      refine TL.yld rfl rfl (yld_load1 0 rfl ag_35 rfl (Box.cells hb15) rfl rfl) ?_
      refine TL.yld rfl rfl (ye_len (c := C_Latch) rfl Try.underlying35 rfl (slRep.old ha2 he13 (Nat.le_refl _))) ?_
      refine TL.yld rfl rfl (yld_lss rfl rfl rfl) ?_
      refine TL.done ?_
      refine NX.seq ?_
      refine WC.cond rfl ?_ ?_
      · intro hc18
        replace hF := bif_t hc18 hF
        refine WC.skip' ?_
        refine NX.seq ?_
        refine WC.seq ?_
        refine WC.block ?_
        refine WC.seq ?_
        refine WC.region ?_
        refine TL.yld rfl rfl (yld_fieldAddr rfl fo_38_0 rfl) ?_
        refine TL.yld rfl rfl (yld_load1 0 rfl ag_35 rfl (Box.cells hb15) rfl rfl) ?_
        refine TL.yld rfl rfl (yld_move rfl rfl) ?_
        obtain ⟨x19, hy20, hF⟩ := bsome hF
        refine TL.ye rfl rfl (ye_index (c := C_Latch) rfl Try.underlying35 cn_50 rfl rfl (slRep.old ha2 he13 (Nat.le_refl _)) hy20) ?_
        rintro _ ⟨b21, o22, us23, rfl, hib26, hr24, hcl25⟩
        have hib26 : 0 ≤ b21 ∧ b21 < w.heap.size := ⟨hib26.1, by have := hib26.2; omega⟩
        obtain rfl := C_Latch_open hr24
        refine TL.yld rfl rfl (yld_loadN (us := [.int .i64 x19.Open, .int .i64 x19.Close]) rfl ag_50 rfl hcl25 cn_50) ?_
        refine TL.eff rfl rfl (eff_alloc rfl zn_50) ?_
        rintro _ w28 ⟨b27, rfl, hn29⟩
        obtain ⟨hn29e, hn29s, hn29x, hb30⟩ := hn29
        have hb30 : Box w28 b27 [.int .i64 0, .int .i64 0] 50 := hb30
        have he32 : Ext w w28 := Ext.trans he13 hn29x
        have hb15 := Box.ext hb15 hn29x
        have hz33 := (hn29x).size
        have hlo31 : w.heap.size ≤ b27 := by rw [hn29e]; exact (he13).size
        refine TL.eff rfl rfl (eff_store rfl rfl rfl hb30 cn_50 rfl rfl) ?_
        rintro _ w34 ⟨hu35, hb36⟩
        have he37 : Ext w w34 := Below.trans he32 (Upd.below hu35 (by omega))
        have hb15 := Box.upd hb15 hu35 (by omega)
        have hz38 := (hu35).size
        have hb30 : Box w34 b27 [.int .i64 x19.Open, .int .i64 x19.Close] 50 := hb36
        refine TL.done ?_
        refine NX.seq ?_
        refine WC.seq ?_
        refine WC.region ?_
        refine TL.yld rfl rfl (yld_fieldAddr rfl fo_50_0 rfl) ?_
        refine TL.yld rfl rfl (yld_load1 0 rfl ag_2 rfl (Box.cells hb30) rfl rfl) ?_
        obtain ⟨r39, hr40, hF⟩ := bsome hF
        refine TL.eff rfl rfl (eff_call rfl gf_57 rfl (W_spec_l01In hr40)) ?_
        rintro _ w41 ⟨rfl, hx42⟩
        have he43 : Ext w w41 := Ext.trans he37 hx42
        have hb15 := Box.ext hb15 hx42
        have hb30 := Box.ext hb30 hx42
        have hz44 := (hx42).size
        refine TL.yld rfl rfl (yld_not rfl rfl) ?_
        refine TL.yld rfl rfl (yld_move rfl rfl) ?_
        obtain ⟨c45, hb46, hF⟩ := bsome hF
        refine TL.cut 7 [(1, .pointer (some ⟨b5, 0, none⟩)), (3, .int .i64 ((a0_s.Latches.length : Int))), (4, .int .i64 i14), (34, .bool c45)] (fun w' => Ext w41 w') ?_ ?_
        · rcases Bool.eq_false_or_eq_true (!r39) with hg47 | hg47
          ·
            rw [hg47] at hb46; simp only [cond_true, cond_false] at hb46
            refine TL.gnu (j := 4) (t := 27) rfl rfl rfl hg47 rfl ?_
            refine TL.gnu (j := 4) (t := 27) rfl rfl rfl hg47 rfl ?_
            refine TL.gnu (j := 4) (t := 27) rfl rfl rfl hg47 rfl ?_
            refine TL.gnu (j := 4) (t := 27) rfl rfl rfl hg47 rfl ?_
            refine TL.gnu (j := 4) (t := 27) rfl rfl rfl hg47 rfl ?_
            refine TL.gnu (j := 4) (t := 27) rfl rfl rfl hg47 rfl ?_
            obtain rfl := Option.some.inj hb46
            refine TL.yld rfl rfl (yld_pick_t rfl rfl hg47 rfl) ?_
            exact TL.nil fun a h => ⟨h.weaken ⟨rfl, rfl, rfl, rfl, trivial⟩, Ext.refl _⟩
          ·
            rw [hg47] at hb46; simp only [cond_true, cond_false] at hb46
            replace hF := hb46
            refine TL.gy (j := 4) (t := 27) rfl rfl rfl hg47 rfl (yld_fieldAddr rfl fo_50_1 rfl) ?_
            refine TL.gy (j := 4) (t := 27) rfl rfl rfl hg47 rfl (yld_load1 1 rfl ag_2 rfl (Box.cells hb30) rfl rfl) ?_
            refine TL.gy (j := 4) (t := 27) rfl rfl rfl hg47 rfl (yld_fieldAddr rfl fo_50_0 rfl) ?_
            refine TL.gy (j := 4) (t := 27) rfl rfl rfl hg47 rfl (yld_load1 0 rfl ag_2 rfl (Box.cells hb30) rfl rfl) ?_
            obtain ⟨r48, hr49, hF⟩ := bsome hF
            refine TL.ge (j := 4) (t := 27) rfl rfl rfl hg47 rfl (eff_call rfl gf_57 rfl (W_spec_l01In hr49)) ?_
            rintro _ w50 ⟨rfl, hx51⟩
            have he52 : Ext w w50 := Ext.trans he43 hx51
            have hb15 := Box.ext hb15 hx51
            have hb30 := Box.ext hb30 hx51
            have hz53 := (hx51).size
            refine TL.gy (j := 4) (t := 27) rfl rfl rfl hg47 rfl (yld_not rfl rfl) ?_
            obtain rfl := Option.some.inj hF
            refine TL.yld rfl rfl (yld_pick_f rfl rfl hg47 rfl) ?_
            exact TL.nil fun a h => ⟨h.weaken ⟨rfl, rfl, rfl, rfl, trivial⟩, hx51⟩
        intro w54 hx55
        have he56 : Ext w w54 := Ext.trans he43 hx55
        have hb15 := Box.ext hb15 hx55
        have hb30 := Box.ext hb30 hx55
        have hz57 := (hx55).size
        refine TL.done ?_
        refine NX.seq ?_
        refine WC.cond rfl ?_ ?_
        · intro hc58
          replace hF := bif_t hc58 hF
          refine WC.seq ?_
          refine WC.region ?_
          refine TL.yld rfl rfl (yld_assign rfl rfl) ?_
          refine TL.done ?_
          refine NX.seq ?_
          refine WC.ret' ?_
          refine NX.blk_r ?_
          refine NX.then_r ?_
          refine NX.then_r ?_
          refine NX.blk_r ?_
          refine NX.then_r ?_
          obtain rfl := Option.some.inj hF
          exact NX.end (rs := [.tmp 2]) (vs := [.bool false]) rfl ⟨rfl, trivial⟩ ⟨_, rfl, rfl, he56⟩
        · intro hc59
          replace hF := bif_f hc59 hF
          refine WC.skip' ?_
          refine NX.blk_n ?_
          refine NX.seq ?_
          refine WC.region ?_
          refine TL.yld rfl rfl (yld_move rfl rfl) ?_
          refine TL.yld rfl rfl (yld_add rfl rfl rfl) ?_
          refine TL.yld rfl rfl (yld_assign rfl rfl) ?_
          refine TL.done ?_
          refine NX.then_n ?_
          intro a hK; exact ⟨m16, Nat.lt_succ_self m16, (IntKind.wrap IntKind.i64 (i14 + 1)), hK.weaken ⟨rfl, rfl, rfl, trivial⟩, he56, (by omega), hb15, hF⟩
      · intro hc60
        replace hF := bif_f hc60 hF
        refine WC.exit' ?_
        refine NX.then_e ?_
        refine NX.then_e ?_
        refine NX.blk_hit ?_
        refine NX.seq ?_
        refine WC.seq ?_
        refine WC.seq ?_
        refine WC.region ?_
        refine TL.yld rfl rfl (yld_assign rfl rfl) ?_
        refine TL.done ?_
        refine NX.seq ?_
        refine WC.block ?_
        refine WC.loop (fun m65 a wl => ∃ (i63 : Int), Kn 83 [(1, .pointer (some ⟨b5, 0, none⟩)), (3, .int .i64 ((a0_s.Latches.length : Int))), (6, .int .i64 i63)] a ∧ Ext w wl ∧ w12.heap.size ≤ wl.heap.size ∧ Box wl b5 [v1, v3] 38 ∧ F_spec_IsLatchSystem_L2 n a0_s (fun i63 => (some (((decide ((a0_s.Latches.length : Int) ≤ 12)) && (decide ((a0_s.Links.length : Int) ≤ 60)))))) m65 i63 = some r) n ?_ ?_
        · intro a hK; exact ⟨0, hK.weaken ⟨rfl, rfl, rfl, trivial⟩, he13, Nat.le_refl _, hb15, hF⟩
        · rintro m65 a w61 ⟨i63, hK, he62, hz66, hb64, hF⟩
          revert hK; revert a; refine (?_ : WC _ _ _ _ _ _)
          cases m65 with
          | zero => rw [F_spec_IsLatchSystem_L2_z] at hF; cases hF
          | succ m65 =>
            rw [F_spec_IsLatchSystem_L2_s] at hF
            refine WC.seq ?_
            refine WC.seq ?_
            refine WC.region ?_
            refine TL.yld rfl rfl (yld_move rfl rfl) ?_
            refine TL.yld rfl rfl (yld_fieldAddr rfl fo_38_1 rfl) ?_
            refine TL.yld rfl rfl (yld_load1 1 rfl ag_36 rfl (Box.cells hb64) rfl rfl) ?_
            refine TL.yld rfl rfl (ye_len (c := C_LatchLink) rfl Try.underlying36 rfl (slRep.old ha4 he62 (Nat.le_refl _))) ?_
            refine TL.yld rfl rfl (yld_lss rfl rfl rfl) ?_
            refine TL.done ?_
            refine NX.seq ?_
            refine WC.cond rfl ?_ ?_
            · intro hc67
              replace hF := bif_t hc67 hF
              refine WC.skip' ?_
              refine NX.seq ?_
              refine WC.seq ?_
              refine WC.block ?_
              refine WC.seq ?_
              refine WC.region ?_
              refine TL.yld rfl rfl (yld_fieldAddr rfl fo_38_1 rfl) ?_
              refine TL.yld rfl rfl (yld_load1 1 rfl ag_36 rfl (Box.cells hb64) rfl rfl) ?_
              refine TL.yld rfl rfl (yld_move rfl rfl) ?_
              obtain ⟨x68, hy69, hF⟩ := bsome hF
              refine TL.ye rfl rfl (ye_index (c := C_LatchLink) rfl Try.underlying36 cn_77 rfl rfl (slRep.old ha4 he62 (Nat.le_refl _)) hy69) ?_
              rintro _ ⟨b70, o71, us72, rfl, hib75, hr73, hcl74⟩
              have hib75 : 0 ≤ b70 ∧ b70 < w.heap.size := ⟨hib75.1, by have := hib75.2; omega⟩
              obtain rfl := C_LatchLink_open hr73
              refine TL.yld rfl rfl (yld_loadN (us := [.int .i64 x68.From, .int .i64 x68.To, .int .i64 x68.Delay, .int .i64 x68.Shift]) rfl ag_77 rfl hcl74 cn_77) ?_
              refine TL.eff rfl rfl (eff_alloc rfl zn_77) ?_
              rintro _ w77 ⟨b76, rfl, hn78⟩
              obtain ⟨hn78e, hn78s, hn78x, hb79⟩ := hn78
              have hb79 : Box w77 b76 [.int .i64 0, .int .i64 0, .int .i64 0, .int .i64 0] 77 := hb79
              have he81 : Ext w w77 := Ext.trans he62 hn78x
              have hb64 := Box.ext hb64 hn78x
              have hz82 := (hn78x).size
              have hlo80 : w.heap.size ≤ b76 := by rw [hn78e]; exact (he62).size
              refine TL.eff rfl rfl (eff_store rfl rfl rfl hb79 cn_77 rfl rfl) ?_
              rintro _ w83 ⟨hu84, hb85⟩
              have he86 : Ext w w83 := Below.trans he81 (Upd.below hu84 (by omega))
              have hb64 := Box.upd hb64 hu84 (by omega)
              have hz87 := (hu84).size
              have hb79 : Box w83 b76 [.int .i64 x68.From, .int .i64 x68.To, .int .i64 x68.Delay, .int .i64 x68.Shift] 77 := hb85
              refine TL.done ?_
              refine NX.seq ?_
              refine WC.seq ?_
              refine WC.region ?_
              refine TL.yld rfl rfl (yld_fieldAddr rfl fo_77_0 rfl) ?_
              refine TL.yld rfl rfl (yld_load1 0 rfl ag_2 rfl (Box.cells hb79) rfl rfl) ?_
              refine TL.yld rfl rfl (yld_move rfl rfl) ?_
              refine TL.yld rfl rfl (yld_sub rfl rfl rfl) ?_
              obtain ⟨r88, hr89, hF⟩ := bsome hF
              refine TL.eff rfl rfl (eff_call rfl gf_57 rfl (W_spec_l01In hr89)) ?_
              rintro _ w90 ⟨rfl, hx91⟩
              have he92 : Ext w w90 := Ext.trans he86 hx91
              have hb64 := Box.ext hb64 hx91
              have hb79 := Box.ext hb79 hx91
              have hz93 := (hx91).size
              refine TL.yld rfl rfl (yld_not rfl rfl) ?_
              refine TL.yld rfl rfl (yld_move rfl rfl) ?_
              obtain ⟨c94, hb95, hF⟩ := bsome hF
              refine TL.cut 7 [(1, .pointer (some ⟨b5, 0, none⟩)), (3, .int .i64 ((a0_s.Latches.length : Int))), (6, .int .i64 i63), (7, .pointer (some ⟨b76, 0, none⟩)), (60, .bool c94)] (fun w' => Ext w90 w') ?_ ?_
              · rcases Bool.eq_false_or_eq_true (!r88) with hg96 | hg96
                ·
                  rw [hg96] at hb95; simp only [cond_true, cond_false] at hb95
                  refine TL.gnu (j := 6) (t := 53) rfl rfl rfl hg96 rfl ?_
                  refine TL.gnu (j := 6) (t := 53) rfl rfl rfl hg96 rfl ?_
                  refine TL.gnu (j := 6) (t := 53) rfl rfl rfl hg96 rfl ?_
                  refine TL.gnu (j := 6) (t := 53) rfl rfl rfl hg96 rfl ?_
                  refine TL.gnu (j := 6) (t := 53) rfl rfl rfl hg96 rfl ?_
                  refine TL.gnu (j := 6) (t := 53) rfl rfl rfl hg96 rfl ?_
                  obtain rfl := Option.some.inj hb95
                  refine TL.yld rfl rfl (yld_pick_t rfl rfl hg96 rfl) ?_
                  exact TL.nil fun a h => ⟨h.weaken ⟨rfl, rfl, rfl, rfl, rfl, trivial⟩, Ext.refl _⟩
                ·
                  rw [hg96] at hb95; simp only [cond_true, cond_false] at hb95
                  replace hF := hb95
                  refine TL.gy (j := 6) (t := 53) rfl rfl rfl hg96 rfl (yld_fieldAddr rfl fo_77_1 rfl) ?_
                  refine TL.gy (j := 6) (t := 53) rfl rfl rfl hg96 rfl (yld_load1 1 rfl ag_2 rfl (Box.cells hb79) rfl rfl) ?_
                  refine TL.gy (j := 6) (t := 53) rfl rfl rfl hg96 rfl (yld_move rfl rfl) ?_
                  refine TL.gy (j := 6) (t := 53) rfl rfl rfl hg96 rfl (yld_sub rfl rfl rfl) ?_
                  obtain ⟨r97, hr98, hF⟩ := bsome hF
                  refine TL.ge (j := 6) (t := 53) rfl rfl rfl hg96 rfl (eff_call rfl gf_57 rfl (W_spec_l01In hr98)) ?_
                  rintro _ w99 ⟨rfl, hx100⟩
                  have he101 : Ext w w99 := Ext.trans he92 hx100
                  have hb64 := Box.ext hb64 hx100
                  have hb79 := Box.ext hb79 hx100
                  have hz102 := (hx100).size
                  refine TL.gy (j := 6) (t := 53) rfl rfl rfl hg96 rfl (yld_not rfl rfl) ?_
                  obtain rfl := Option.some.inj hF
                  refine TL.yld rfl rfl (yld_pick_f rfl rfl hg96 rfl) ?_
                  exact TL.nil fun a h => ⟨h.weaken ⟨rfl, rfl, rfl, rfl, rfl, trivial⟩, hx100⟩
              intro w103 hx104
              have he105 : Ext w w103 := Ext.trans he92 hx104
              have hb64 := Box.ext hb64 hx104
              have hb79 := Box.ext hb79 hx104
              have hz106 := (hx104).size
              refine TL.yld rfl rfl (yld_move rfl rfl) ?_
              obtain ⟨c107, hb108, hF⟩ := bsome hF
              refine TL.cut 5 [(1, .pointer (some ⟨b5, 0, none⟩)), (3, .int .i64 ((a0_s.Latches.length : Int))), (6, .int .i64 i63), (7, .pointer (some ⟨b76, 0, none⟩)), (66, .bool c107)] (fun w' => Ext w103 w') ?_ ?_
              · rcases Bool.eq_false_or_eq_true c94 with hg109 | hg109
                ·
                  rw [hg109] at hb108; simp only [cond_true, cond_false] at hb108
                  refine TL.gnu (j := 14) (t := 61) rfl rfl rfl hg109 rfl ?_
                  refine TL.gnu (j := 14) (t := 61) rfl rfl rfl hg109 rfl ?_
                  refine TL.gnu (j := 14) (t := 61) rfl rfl rfl hg109 rfl ?_
                  refine TL.gnu (j := 14) (t := 61) rfl rfl rfl hg109 rfl ?_
                  obtain rfl := Option.some.inj hb108
                  refine TL.yld rfl rfl (yld_pick_t rfl rfl hg109 rfl) ?_
                  exact TL.nil fun a h => ⟨h.weaken ⟨rfl, rfl, rfl, rfl, rfl, trivial⟩, Ext.refl _⟩
                ·
                  rw [hg109] at hb108; simp only [cond_true, cond_false] at hb108
                  replace hF := hb108
                  refine TL.gy (j := 14) (t := 61) rfl rfl rfl hg109 rfl (yld_fieldAddr rfl fo_77_2 rfl) ?_
                  refine TL.gy (j := 14) (t := 61) rfl rfl rfl hg109 rfl (yld_load1 2 rfl ag_2 rfl (Box.cells hb79) rfl rfl) ?_
                  obtain ⟨r110, hr111, hF⟩ := bsome hF
                  refine TL.ge (j := 14) (t := 61) rfl rfl rfl hg109 rfl (eff_call rfl gf_57 rfl (W_spec_l01In hr111)) ?_
                  rintro _ w112 ⟨rfl, hx113⟩
                  have he114 : Ext w w112 := Ext.trans he105 hx113
                  have hb64 := Box.ext hb64 hx113
                  have hb79 := Box.ext hb79 hx113
                  have hz115 := (hx113).size
                  refine TL.gy (j := 14) (t := 61) rfl rfl rfl hg109 rfl (yld_not rfl rfl) ?_
                  obtain rfl := Option.some.inj hF
                  refine TL.yld rfl rfl (yld_pick_f rfl rfl hg109 rfl) ?_
                  exact TL.nil fun a h => ⟨h.weaken ⟨rfl, rfl, rfl, rfl, rfl, trivial⟩, hx113⟩
              intro w116 hx117
              have he118 : Ext w w116 := Ext.trans he105 hx117
              have hb64 := Box.ext hb64 hx117
              have hb79 := Box.ext hb79 hx117
              have hz119 := (hx117).size
              refine TL.yld rfl rfl (yld_move rfl rfl) ?_
              obtain ⟨c120, hb121, hF⟩ := bsome hF
              refine TL.cut 5 [(1, .pointer (some ⟨b5, 0, none⟩)), (3, .int .i64 ((a0_s.Latches.length : Int))), (6, .int .i64 i63), (72, .bool c120)] (fun w' => Ext w116 w') ?_ ?_
              · rcases Bool.eq_false_or_eq_true c107 with hg122 | hg122
                ·
                  rw [hg122] at hb121; simp only [cond_true, cond_false] at hb121
                  refine TL.gnu (j := 20) (t := 67) rfl rfl rfl hg122 rfl ?_
                  refine TL.gnu (j := 20) (t := 67) rfl rfl rfl hg122 rfl ?_
                  refine TL.gnu (j := 20) (t := 67) rfl rfl rfl hg122 rfl ?_
                  refine TL.gnu (j := 20) (t := 67) rfl rfl rfl hg122 rfl ?_
                  obtain rfl := Option.some.inj hb121
                  refine TL.yld rfl rfl (yld_pick_t rfl rfl hg122 rfl) ?_
                  exact TL.nil fun a h => ⟨h.weaken ⟨rfl, rfl, rfl, rfl, trivial⟩, Ext.refl _⟩
                ·
                  rw [hg122] at hb121; simp only [cond_true, cond_false] at hb121
                  replace hF := hb121
                  refine TL.gy (j := 20) (t := 67) rfl rfl rfl hg122 rfl (yld_fieldAddr rfl fo_77_3 rfl) ?_
                  refine TL.gy (j := 20) (t := 67) rfl rfl rfl hg122 rfl (yld_load1 3 rfl ag_2 rfl (Box.cells hb79) rfl rfl) ?_
                  obtain ⟨r123, hr124, hF⟩ := bsome hF
                  refine TL.ge (j := 20) (t := 67) rfl rfl rfl hg122 rfl (eff_call rfl gf_57 rfl (W_spec_l01In hr124)) ?_
                  rintro _ w125 ⟨rfl, hx126⟩
                  have he127 : Ext w w125 := Ext.trans he118 hx126
                  have hb64 := Box.ext hb64 hx126
                  have hb79 := Box.ext hb79 hx126
                  have hz128 := (hx126).size
                  refine TL.gy (j := 20) (t := 67) rfl rfl rfl hg122 rfl (yld_not rfl rfl) ?_
                  obtain rfl := Option.some.inj hF
                  refine TL.yld rfl rfl (yld_pick_f rfl rfl hg122 rfl) ?_
                  exact TL.nil fun a h => ⟨h.weaken ⟨rfl, rfl, rfl, rfl, trivial⟩, hx126⟩
              intro w129 hx130
              have he131 : Ext w w129 := Ext.trans he118 hx130
              have hb64 := Box.ext hb64 hx130
              have hb79 := Box.ext hb79 hx130
              have hz132 := (hx130).size
              refine TL.done ?_
              refine NX.seq ?_
              refine WC.cond rfl ?_ ?_
              · intro hc133
                replace hF := bif_t hc133 hF
                refine WC.seq ?_
                refine WC.region ?_
                refine TL.yld rfl rfl (yld_assign rfl rfl) ?_
                refine TL.done ?_
                refine NX.seq ?_
                refine WC.ret' ?_
                refine NX.blk_r ?_
                refine NX.then_r ?_
                refine NX.then_r ?_
                refine NX.blk_r ?_
                refine NX.then_r ?_
                obtain rfl := Option.some.inj hF
                exact NX.end (rs := [.tmp 2]) (vs := [.bool false]) rfl ⟨rfl, trivial⟩ ⟨_, rfl, rfl, he131⟩
              · intro hc134
                replace hF := bif_f hc134 hF
                refine WC.skip' ?_
                refine NX.blk_n ?_
                refine NX.seq ?_
                refine WC.region ?_
                refine TL.yld rfl rfl (yld_move rfl rfl) ?_
                refine TL.yld rfl rfl (yld_add rfl rfl rfl) ?_
                refine TL.yld rfl rfl (yld_assign rfl rfl) ?_
                refine TL.done ?_
                refine NX.then_n ?_
                intro a hK; exact ⟨m65, Nat.lt_succ_self m65, (IntKind.wrap IntKind.i64 (i63 + 1)), hK.weaken ⟨rfl, rfl, rfl, trivial⟩, he131, (by omega), hb64, hF⟩
            · intro hc135
              replace hF := bif_f hc135 hF
              refine WC.exit' ?_
              refine NX.then_e ?_
              refine NX.then_e ?_
              refine NX.blk_hit ?_
              refine NX.seq ?_
              refine WC.seq ?_
              refine WC.region ?_
              refine TL.yld rfl rfl (yld_fieldAddr rfl fo_38_0 rfl) ?_
              refine TL.yld rfl rfl (yld_load1 0 rfl ag_35 rfl (Box.cells hb64) rfl rfl) ?_
              refine TL.yld rfl rfl (ye_len (c := C_Latch) rfl Try.underlying35 rfl (slRep.old ha2 he62 (Nat.le_refl _))) ?_
              refine TL.yld rfl rfl (yld_leq rfl rfl rfl) ?_
              refine TL.yld rfl rfl (yld_move rfl rfl) ?_
              refine TL.cut 5 [(82, .bool (((decide ((a0_s.Latches.length : Int) ≤ 12)) && (decide ((a0_s.Links.length : Int) ≤ 60)))))] (fun w' => Ext w61 w') ?_ ?_
              · rcases Bool.eq_false_or_eq_true (decide ((a0_s.Latches.length : Int) ≤ 12)) with hg136 | hg136
                ·
                  refine TL.gy (j := 4) (t := 77) rfl rfl rfl hg136 rfl (yld_fieldAddr rfl fo_38_1 rfl) ?_
                  refine TL.gy (j := 4) (t := 77) rfl rfl rfl hg136 rfl (yld_load1 1 rfl ag_36 rfl (Box.cells hb64) rfl rfl) ?_
                  refine TL.gy (j := 4) (t := 77) rfl rfl rfl hg136 rfl (ye_len (c := C_LatchLink) rfl Try.underlying36 rfl (slRep.old ha4 he62 (Nat.le_refl _))) ?_
                  refine TL.gy (j := 4) (t := 77) rfl rfl rfl hg136 rfl (yld_leq rfl rfl rfl) ?_
                  refine TL.yld rfl rfl (yld_and_t rfl rfl hg136 rfl) ?_
                  exact TL.nil fun a h => ⟨h.weaken ⟨rfl, trivial⟩, Ext.refl _⟩
                ·
                  refine TL.gnu (j := 4) (t := 77) rfl rfl rfl hg136 rfl ?_
                  refine TL.gnu (j := 4) (t := 77) rfl rfl rfl hg136 rfl ?_
                  refine TL.gnu (j := 4) (t := 77) rfl rfl rfl hg136 rfl ?_
                  refine TL.gnu (j := 4) (t := 77) rfl rfl rfl hg136 rfl ?_
                  refine TL.yld rfl rfl (yld_and_f (b2 := decide ((a0_s.Links.length : Int) ≤ 60)) rfl rfl hg136 rfl) ?_
                  exact TL.nil fun a h => ⟨h.weaken ⟨rfl, trivial⟩, Ext.refl _⟩
              intro w137 hx138
              have he139 : Ext w w137 := Ext.trans he62 hx138
              have hb64 := Box.ext hb64 hx138
              have hz140 := (hx138).size
              refine TL.yld rfl rfl (yld_assign rfl rfl) ?_
              refine TL.done ?_
              refine NX.seq ?_
              refine WC.ret' ?_
              obtain rfl := Option.some.inj hF
              exact NX.end (rs := [.tmp 2]) (vs := [.bool (((decide ((a0_s.Latches.length : Int) ≤ 12)) && (decide ((a0_s.Links.length : Int) ≤ 60))))]) rfl ⟨rfl, trivial⟩ ⟨_, rfl, rfl, he139⟩

-- loop.example/g00861/spec.l18Room
def F_spec_l18Room_L1 (a0_s : S_LatchSystem) (k0 : Int → Int → Option Int) : Nat → Int → Int → Option Int
  | 0 => fun _ _ => none
  | m + 1 => fun i14 i15 => (bif decide (i15 < (a0_s.Links.length : Int)) then (Option.bind (getI a0_s.Links i15) fun x18 => (F_spec_l18Room_L1 a0_s k0 m (min i14 (IntKind.wrap IntKind.i64 (100000 - x18.Shift))) (IntKind.wrap IntKind.i64 (i15 + 1)))) else (k0 i14 i15))
theorem F_spec_l18Room_L1_z (a0_s : S_LatchSystem) (k0 : Int → Int → Option Int) (i14 : Int) (i15 : Int) : F_spec_l18Room_L1 a0_s k0 0 i14 i15 = none := rfl
theorem F_spec_l18Room_L1_s (m : Nat) (a0_s : S_LatchSystem) (k0 : Int → Int → Option Int) (i14 : Int) (i15 : Int) : F_spec_l18Room_L1 a0_s k0 (m + 1) i14 i15 = (bif decide (i15 < (a0_s.Links.length : Int)) then (Option.bind (getI a0_s.Links i15) fun x18 => (F_spec_l18Room_L1 a0_s k0 m (min i14 (IntKind.wrap IntKind.i64 (100000 - x18.Shift))) (IntKind.wrap IntKind.i64 (i15 + 1)))) else (k0 i14 i15)) := rfl

def F_spec_l18Room (n : Nat) (a0_s : S_LatchSystem) : Option Int := (F_spec_l18Room_L1 a0_s (fun i14 i15 => (some i14)) n 100000 0)
set_option maxHeartbeats 4000000 in
theorem W_spec_l18Room {n : Nat} {a0_s : S_LatchSystem} {r : Int} {w : World} {v1 : Value} {v3 : Value} (hF : F_spec_l18Room n a0_s = some r) (ha2 : slRep C_Latch w (Iv 0 w.heap.size) a0_s.Latches v1) (ha4 : slRep C_LatchLink w (Iv 0 w.heap.size) a0_s.Links v3) :
    Calls Try.prog 79 [.agg #[v1, v3]].toArray w (Ret fun u w2 => u = .int .i64 r ∧ Ext w w2) := by
  refine calls_of Try.func79 rfl Try.ntmps79 ?_
  have he0 : Ext w w := Ext.refl w
  unfold F_spec_l18Room at hF
  refine WC.seq ?_
  refine WC.region ?_
  refine TL.eff rfl rfl (eff_box rfl rfl) ?_
  rintro _ w6 ⟨b5, rfl, hn7⟩
  obtain ⟨hn7e, hn7s, hn7x, hb8⟩ := hn7
  have hb8 : Box w6 b5 [v1, v3] 38 := hb8
  have he10 : Ext w w6 := Ext.trans he0 hn7x
  have hz11 := (hn7x).size
  have hlo9 : w.heap.size ≤ b5 := by rw [hn7e]; exact (he0).size
  refine TL.yld rfl rfl (yld_assign rfl rfl) ?_
  refine TL.done ?_
  refine NX.seq ?_
  refine WC.seq ?_
  refine WC.region ?_
  refine TL.yld rfl rfl (yld_assign rfl rfl) ?_
  refine TL.done ?_
  refine NX.seq ?_
  refine WC.seq ?_
  refine WC.seq ?_
  refine WC.region ?_
  refine TL.yld rfl rfl (yld_assign rfl rfl) ?_
  refine TL.done ?_
  refine NX.seq ?_
  refine WC.block ?_
  refine WC.loop (fun m17 a wl => ∃ (i14 : Int) (i15 : Int), Kn 22 [(1, .pointer (some ⟨b5, 0, none⟩)), (3, .int .i64 i14), (4, .int .i64 i15)] a ∧ Ext w wl ∧ w6.heap.size ≤ wl.heap.size ∧ Box wl b5 [v1, v3] 38 ∧ F_spec_l18Room_L1 a0_s (fun i14 i15 => (some i14)) m17 i14 i15 = some r) n ?_ ?_
  · intro a hK; exact ⟨100000, 0, hK.weaken ⟨rfl, rfl, rfl, trivial⟩, he10, Nat.le_refl _, hb8, hF⟩
  · rintro m17 a w12 ⟨i14, i15, hK, he13, hz18, hb16, hF⟩
    revert hK; revert a; refine (?_ : WC _ _ _ _ _ _)
    cases m17 with
    | zero => rw [F_spec_l18Room_L1_z] at hF; cases hF
    | succ m17 =>
      rw [F_spec_l18Room_L1_s] at hF
      refine WC.seq ?_
      refine WC.seq ?_
      refine WC.region ?_
      refine TL.yld rfl rfl (yld_move rfl rfl) ?_
      refine TL.yld rfl rfl (yld_fieldAddr rfl fo_38_1 rfl) ?_
      refine TL.yld rfl rfl (yld_load1 1 rfl ag_36 rfl (Box.cells hb16) rfl rfl) ?_
      refine TL.yld rfl rfl (ye_len (c := C_LatchLink) rfl Try.underlying36 rfl (slRep.old ha4 he13 (Nat.le_refl _))) ?_
      refine TL.yld rfl rfl (yld_lss rfl rfl rfl) ?_
      refine TL.done ?_
      refine NX.seq ?_
      refine WC.cond rfl ?_ ?_
      · intro hc19
        replace hF := bif_t hc19 hF
        refine WC.skip' ?_
        refine NX.seq ?_
        refine WC.seq ?_
        refine WC.block ?_
        refine WC.region ?_
        refine TL.yld rfl rfl (yld_move rfl rfl) ?_
        refine TL.yld rfl rfl (yld_fieldAddr rfl fo_38_1 rfl) ?_
        refine TL.yld rfl rfl (yld_load1 1 rfl ag_36 rfl (Box.cells hb16) rfl rfl) ?_
        refine TL.yld rfl rfl (yld_move rfl rfl) ?_
        obtain ⟨x20, hy21, hF⟩ := bsome hF
        refine TL.ye rfl rfl (ye_index (c := C_LatchLink) rfl Try.underlying36 cn_77 rfl rfl (slRep.old ha4 he13 (Nat.le_refl _)) hy21) ?_
        rintro _ ⟨b22, o23, us24, rfl, hib27, hr25, hcl26⟩
        have hib27 : 0 ≤ b22 ∧ b22 < w.heap.size := ⟨hib27.1, by have := hib27.2; omega⟩
        obtain rfl := C_LatchLink_open hr25
        refine TL.yld rfl rfl (yld_fieldAddr rfl fo_77_3 rfl) ?_
        refine TL.yld rfl rfl (yld_load1 3 rfl ag_2 rfl hcl26 rfl rfl) ?_
        refine TL.yld rfl rfl (yld_sub rfl rfl rfl) ?_
        refine TL.yld rfl rfl (yld_min2 rfl rfl rfl) ?_
        refine TL.yld rfl rfl (yld_assign rfl rfl) ?_
        refine TL.done ?_
        refine NX.blk_n ?_
        refine NX.seq ?_
        refine WC.region ?_
        refine TL.yld rfl rfl (yld_move rfl rfl) ?_
        refine TL.yld rfl rfl (yld_add rfl rfl rfl) ?_
        refine TL.yld rfl rfl (yld_assign rfl rfl) ?_
        refine TL.done ?_
        refine NX.then_n ?_
        intro a hK; exact ⟨m17, Nat.lt_succ_self m17, (min i14 (IntKind.wrap IntKind.i64 (100000 - x20.Shift))), (IntKind.wrap IntKind.i64 (i15 + 1)), hK.weaken ⟨rfl, rfl, rfl, trivial⟩, he13, (by omega), hb16, hF⟩
      · intro hc28
        replace hF := bif_f hc28 hF
        refine WC.exit' ?_
        refine NX.then_e ?_
        refine NX.then_e ?_
        refine NX.blk_hit ?_
        refine NX.seq ?_
        refine WC.seq ?_
        refine WC.region ?_
        refine TL.yld rfl rfl (yld_move rfl rfl) ?_
        refine TL.yld rfl rfl (yld_assign rfl rfl) ?_
        refine TL.done ?_
        refine NX.seq ?_
        refine WC.ret' ?_
        obtain rfl := Option.some.inj hF
        exact NX.end (rs := [.tmp 2]) (vs := [.int .i64 i14]) rfl ⟨rfl, trivial⟩ ⟨_, rfl, rfl, he13⟩

-- loop.example/g00861/spec.l18Shifted
def F_spec_l18Shifted_L1 (a1_by : Int) (k0 : Int → (List S_LatchLink) → Option S_LatchSystem) : Nat → Int → (List S_LatchLink) → Option S_LatchSystem
  | 0 => fun _ _ => none
  | m + 1 => fun i827 l831 => (bif decide (i827 < (l831.length : Int)) then (Option.bind (getI l831 i827) fun x834 => (Option.bind (getI l831 i827) fun x841 => (F_spec_l18Shifted_L1 a1_by k0 m (IntKind.wrap IntKind.i64 (i827 + 1)) ((l831.set (i827).toNat ((S_LatchLink.mk x841.From x841.To x841.Delay (IntKind.wrap IntKind.i64 (x834.Shift + a1_by))))))))) else (k0 i827 l831))
theorem F_spec_l18Shifted_L1_z (a1_by : Int) (k0 : Int → (List S_LatchLink) → Option S_LatchSystem) (i827 : Int) (l831 : List S_LatchLink) : F_spec_l18Shifted_L1 a1_by k0 0 i827 l831 = none := rfl
theorem F_spec_l18Shifted_L1_s (m : Nat) (a1_by : Int) (k0 : Int → (List S_LatchLink) → Option S_LatchSystem) (i827 : Int) (l831 : List S_LatchLink) : F_spec_l18Shifted_L1 a1_by k0 (m + 1) i827 l831 = (bif decide (i827 < (l831.length : Int)) then (Option.bind (getI l831 i827) fun x834 => (Option.bind (getI l831 i827) fun x841 => (F_spec_l18Shifted_L1 a1_by k0 m (IntKind.wrap IntKind.i64 (i827 + 1)) ((l831.set (i827).toNat ((S_LatchLink.mk x841.From x841.To x841.Delay (IntKind.wrap IntKind.i64 (x834.Shift + a1_by))))))))) else (k0 i827 l831)) := rfl

def F_spec_l18Shifted (n : Nat) (a0_s : S_LatchSystem) (a1_by : Int) : Option S_LatchSystem := (Option.bind (appN (([] : List S_Latch)) a0_s.Latches 16) fun z32 => (Option.bind (appN (([] : List S_LatchLink)) a0_s.Links 32) fun z57 => (F_spec_l18Shifted_L1 a1_by (fun i827 l831 => (some ((S_LatchSystem.mk z32 l831)))) n 0 z57)))
set_option maxHeartbeats 4000000 in
theorem W_spec_l18Shifted {n : Nat} {a0_s : S_LatchSystem} {a1_by : Int} {r : S_LatchSystem} {w : World} {v1 : Value} {v3 : Value} (hF : F_spec_l18Shifted n a0_s a1_by = some r) (ha2 : slRep C_Latch w (Iv 0 w.heap.size) a0_s.Latches v1) (ha4 : slRep C_LatchLink w (Iv 0 w.heap.size) a0_s.Links v3) :
    Calls Try.prog 80 [.agg #[v1, v3], .int .i64 a1_by].toArray w (Ret fun u w2 => ∃ v0_0 v0_1, u = .agg #[v0_0, v0_1] ∧ ownR C_Latch w2 w.heap.size (Iv 0 0) 50 r.Latches v0_0 ∧ ownR C_LatchLink w2 w.heap.size (Iv 0 0) 77 r.Links v0_1 ∧ (∀ g q, v0_1.ownBlock = some g → v0_0.ownBlock = some q → g ≠ q) ∧ Ext w w2) := by
  refine calls_of Try.func80 rfl Try.ntmps80 ?_
  have he0 : Ext w w := Ext.refl w
  unfold F_spec_l18Shifted at hF
  refine WC.seq ?_
  refine WC.region ?_
  refine TL.eff rfl rfl (eff_box rfl rfl) ?_
  rintro _ w6 ⟨b5, rfl, hn7⟩
  obtain ⟨hn7e, hn7s, hn7x, hb8⟩ := hn7
  have hb8 : Box w6 b5 [v1, v3] 38 := hb8
  have he10 : Ext w w6 := Ext.trans he0 hn7x
  have hz11 := (hn7x).size
  have hlo9 : w.heap.size ≤ b5 := by rw [hn7e]; exact (he0).size
  refine TL.eff rfl rfl (eff_alloc rfl zn_38) ?_
  rintro _ w13 ⟨b12, rfl, hn14⟩
  obtain ⟨hn14e, hn14s, hn14x, hb15⟩ := hn14
  have hb15 : Box w13 b12 [.slice none 0 0, .slice none 0 0] 38 := hb15
  have he17 : Ext w w13 := Ext.trans he10 hn14x
  have hb8 := Box.ext hb8 hn14x
  have hz18 := (hn14x).size
  have hlo16 : w.heap.size ≤ b12 := by rw [hn14e]; exact (he10).size
  refine TL.done ?_
  refine NX.seq ?_
  refine WC.seq ?_
  obtain ⟨z32, ha33, hF⟩ := bsome hF
  obtain ⟨z57, ha58, hF⟩ := bsome hF
  refine WC.join (fun a wl => ∃ (b86 : Nat) (v88 : Value) (v91 : Value), Kn 37 [(1, .int .i64 a1_by), (4, .pointer (some ⟨b12, 0, none⟩)), (5, .pointer (some ⟨b86, 0, none⟩))] a ∧ Ext w wl ∧ w13.heap.size ≤ wl.heap.size ∧ Box wl b12 [.slice none 0 0, .slice none 0 0] 38 ∧ Box wl b86 [v88, v91] 38 ∧ (w13.heap.size ≤ b86 ∧ b86 < wl.heap.size) ∧ ownR C_Latch wl (w13.heap.size) (Iv 0 0) 50 z32 v88 ∧ (∀ q, v88.ownBlock = some q → w13.heap.size ≤ q ∧ q < wl.heap.size) ∧ ownR C_LatchLink wl (w13.heap.size) (Iv 0 0) 77 z57 v91 ∧ (∀ q, v91.ownBlock = some q → w13.heap.size ≤ q ∧ q < wl.heap.size) ∧ b86 ≠ b12 ∧ (∀ g, v88.ownBlock = some g → g ≠ b12) ∧ (∀ g, v88.ownBlock = some g → g ≠ b86) ∧ (∀ g, v91.ownBlock = some g → g ≠ b12) ∧ (∀ g, v91.ownBlock = some g → g ≠ b86) ∧ (∀ g q, v91.ownBlock = some g → v88.ownBlock = some q → g ≠ q)) ?_ ?_
  ·
    refine WC.held 10 Try.hm fun w102 hx103 => ?_
    have he104 : Ext w w102 := Ext.trans he17 hx103
    have hb8 := Box.ext hb8 hx103
    have hb15 := Box.ext hb15 hx103
    have hz105 := (hx103).size
    refine HL.yld 1 (by kernel_rfl) rfl (by kernel_rfl) rfl rfl (yld_fieldAddr rfl fo_38_0 rfl) ?_
    refine HL.yld 2 (by kernel_rfl) rfl (by kernel_rfl) rfl rfl (yld_load1 0 rfl ag_35 rfl (Box.cells hb8) rfl rfl) ?_
    refine HL.yld 5 (by kernel_rfl) rfl (by kernel_rfl) rfl rfl (yld_fieldAddr rfl fo_38_1 rfl) ?_
    refine HL.yld 6 (by kernel_rfl) rfl (by kernel_rfl) rfl rfl (yld_load1 1 rfl ag_36 rfl (Box.cells hb8) rfl rfl) ?_
    refine HL.many (js := [0, 4, 9]) (by kernel_rfl) rfl (all_three ?_ ?_ ?_)
    ·
      refine HB.eff 0 rfl rfl (by kernel_rfl) rfl rfl (eff_buildSlice (c := C_Latch) (xs := ([] : List S_Latch)) (S := (Iv 0 0)) (uss := []) (out := []) rfl Try.underlying35 in_50 rfl rfl (fillL_all [] rfl rfl rfl) rfl rfl rfl rfl (one_rep (uss := []) (show reps _ _ _ _ _ from trivial) rfl) (fun k h => by have := h.2; omega) rfl) ?_
      rintro v106 w107 ⟨g108, hv109, hg110, hz111, hx112, hs113⟩
      have hbs114 : Ext w102 w107 := Ext.trans (Ext.refl w102) hx112
      have he115 : Ext w w107 := Ext.trans he104 hx112
      have hb8 := Box.ext hb8 hx112
      have hb15 := Box.ext hb15 hx112
      have hz116 := (hx112).size
      have hlo117 : w.heap.size ≤ g108 := by rw [hg110]; exact (he104).size
      have hbd118 := bd_of hv109
      clear hv109
      refine ⟨hbs114, ?_⟩
      refine HL.many (js := [3, 4, 9]) (by kernel_rfl) rfl (all_three ?_ ?_ ?_)
      ·
        refine HB.eff 3 rfl rfl (by kernel_rfl) rfl rfl (eff_appendF (c := C_Latch) rfl Try.underlying35 in_50 rfl rfl rfl rfl rfl hs113 (by omega) (slRep.old ha2 he115 (Nat.le_refl _)) ha33) ?_
        rintro v120 w121 ⟨hs122, hgr123⟩
        have hbs125 : Ext w102 w121 := Below.trans hbs114 (Grew.low hgr123 (fun g hg => by have := hbd118 g hg; omega) (hbs114).size)
        have he126 : Ext w w121 := Below.trans he115 (Grew.low hgr123 (fun g hg => by have := hbd118 g hg; omega) (he115).size)
        have hp127 : ∀ g, v120.ownBlock = some g → g ≠ b5 := Grew.sepP (p := fun g => g ≠ b5) hgr123 (fun g hg => by have := hbd118 g hg; omega) (fun g hg => by omega)
        have hb8 := Grew.box hgr123 hb8 (fun g hg => by have := hbd118 g hg; omega)
        have hp128 : ∀ g, v120.ownBlock = some g → g ≠ b12 := Grew.sepP (p := fun g => g ≠ b12) hgr123 (fun g hg => by have := hbd118 g hg; omega) (fun g hg => by omega)
        have hb15 := Grew.box hgr123 hb15 (fun g hg => by have := hbd118 g hg; omega)
        have hz129 := (hgr123).1.size
        have hbd130 : ∀ g, v120.ownBlock = some g → g108 ≤ g ∧ g < w121.heap.size := Grew.bd hgr123 hs122 (fun g hg => ⟨by have := hbd118 g hg; omega, (hbd118 g hg).2⟩) (by omega) (by omega)
        refine ⟨hbs125, ?_⟩
        refine HL.many (js := [4, 9]) (by kernel_rfl) rfl (all_two ?_ ?_)
        ·
          refine HB.eff 4 rfl rfl (by kernel_rfl) rfl rfl (eff_buildSlice (c := C_LatchLink) (xs := ([] : List S_LatchLink)) (S := (Iv 0 0)) (uss := []) (out := []) rfl Try.underlying36 in_77 rfl rfl (fillL_all [] rfl rfl rfl) rfl rfl rfl rfl (one_rep (uss := []) (show reps _ _ _ _ _ from trivial) rfl) (fun k h => by have := h.2; omega) rfl) ?_
          rintro v131 w132 ⟨g133, hv134, hg135, hz136, hx137, hs138⟩
          have hbs139 : Ext w102 w132 := Ext.trans hbs125 hx137
          have he140 : Ext w w132 := Ext.trans he126 hx137
          have hb8 := Box.ext hb8 hx137
          have hb15 := Box.ext hb15 hx137
          have hs122 := ownR.ext hs122 hx137
          have hz141 := (hx137).size
          have hlo142 : w.heap.size ≤ g133 := by rw [hg135]; exact (he126).size
          have hbd143 := bd_of hv134
          clear hv134
          refine ⟨hbs139, ?_⟩
          refine HL.many (js := [7, 9]) (by kernel_rfl) rfl (all_two ?_ ?_)
          ·
            refine HB.eff 7 rfl rfl (by kernel_rfl) rfl rfl (eff_appendF (c := C_LatchLink) rfl Try.underlying36 in_77 rfl rfl rfl rfl rfl hs138 (by omega) (slRep.old ha4 he140 (Nat.le_refl _)) ha58) ?_
            rintro v145 w146 ⟨hs147, hgr148⟩
            have hbs150 : Ext w102 w146 := Below.trans hbs139 (Grew.low hgr148 (fun g hg => by have := hbd143 g hg; omega) (hbs139).size)
            have he151 : Ext w w146 := Below.trans he140 (Grew.low hgr148 (fun g hg => by have := hbd143 g hg; omega) (he140).size)
            have hp152 : ∀ g, v145.ownBlock = some g → g ≠ b5 := Grew.sepP (p := fun g => g ≠ b5) hgr148 (fun g hg => by have := hbd143 g hg; omega) (fun g hg => by omega)
            have hb8 := Grew.box hgr148 hb8 (fun g hg => by have := hbd143 g hg; omega)
            have hp153 : ∀ g, v145.ownBlock = some g → g ≠ b12 := Grew.sepP (p := fun g => g ≠ b12) hgr148 (fun g hg => by have := hbd143 g hg; omega) (fun g hg => by omega)
            have hb15 := Grew.box hgr148 hb15 (fun g hg => by have := hbd143 g hg; omega)
            have hp154 : ∀ g q, v131.ownBlock = some g → v120.ownBlock = some q → g ≠ q := (fun g q hg hq => by have := hbd143 g hg; have := hbd130 q hq; omega)
            have hp155 : ∀ g q, v145.ownBlock = some g → v120.ownBlock = some q → g ≠ q := fun g q hg hq => Grew.sepP (p := fun g => ∀ q, v120.ownBlock = some q → g ≠ q) hgr148 (fun g hg q hq => (hp154) g q hg hq) (fun g hg q hq => by have := hbd130 q hq; omega) g hg q hq
            have hs122 := Grew.ownF hgr148 hs122 hp154
            have hz156 := (hgr148).1.size
            have hbd157 : ∀ g, v145.ownBlock = some g → g133 ≤ g ∧ g < w146.heap.size := Grew.bd hgr148 hs147 (fun g hg => ⟨by have := hbd143 g hg; omega, (hbd143 g hg).2⟩) (by omega) (by omega)
            refine ⟨hbs150, ?_⟩
            refine HL.yld 8 (by kernel_rfl) rfl (by kernel_rfl) rfl rfl (yld_build (uss := [(0, [v120]), (1, [v145])]) (out := [v120, v145]) rfl rfl zn_38 pl_38 (pt_cons (slRep.cl (ownR.slf hs122 (Nat.le_refl _) (Nat.le_refl _))) (pt_cons (slRep.cl (ownR.slf hs147 (Nat.le_refl _) (Nat.le_refl _))) rfl)) rfl) ?_
            refine HL.eff 9 rfl rfl (by kernel_rfl) rfl rfl (eff_alloc rfl zn_38) ?_
            rintro _ w159 ⟨b158, rfl, hn160⟩
            obtain ⟨hn160e, hn160s, hn160x, hb161⟩ := hn160
            have hb161 : Box w159 b158 [.slice none 0 0, .slice none 0 0] 38 := hb161
            have hbs163 : Ext w102 w159 := Ext.trans hbs150 hn160x
            have he164 : Ext w w159 := Ext.trans he151 hn160x
            have hb8 := Box.ext hb8 hn160x
            have hb15 := Box.ext hb15 hn160x
            have hs122 := ownR.ext hs122 hn160x
            have hs147 := ownR.ext hs147 hn160x
            have hz165 := (hn160x).size
            have hlo162 : w.heap.size ≤ b158 := by rw [hn160e]; exact (he151).size
            refine ⟨hbs163, ?_⟩
            refine HL.tail rfl (by kernel_rfl) rfl ?_
            refine TL.eff rfl rfl (eff_store rfl rfl rfl hb161 cn_38 (allc_cons (slRep.one (ownR.slf hs122 (Nat.le_refl _) (Nat.le_refl _))) (allc_cons (slRep.one (ownR.slf hs147 (Nat.le_refl _) (Nat.le_refl _))) allc_nil)) rfl) ?_
            rintro _ w166 ⟨hu167, hb168⟩
            have he169 : Ext w w166 := Below.trans he164 (Upd.below hu167 (by omega))
            have hb8 := Box.upd hb8 hu167 (by omega)
            have hb15 := Box.upd hb15 hu167 (by omega)
            have hs122 := ownR.upd hs122 hu167 (fun g hg => by have := hbd130 g hg; omega)
            have hs147 := ownR.upd hs147 hu167 (fun g hg => by have := hbd157 g hg; omega)
            have hz170 := (hu167).size
            have hb161 : Box w166 b158 [v120, v145] 38 := hb168
            refine TL.noPan (l := []) ?_
            exact fun a hK => ⟨rfl, b158, v120, v145, hK.weaken ⟨rfl, rfl, rfl, trivial⟩, he169, (by omega), hb15, hb161, ⟨by omega, Box.lt hb161⟩, (ownR.base hs122 (by omega)), (fun g hg => by have := hbd130 g hg; omega), (ownR.base hs147 (by omega)), (fun g hg => by have := hbd157 g hg; omega), (by omega), hp128, (fun g hg => by have := hbd130 g hg; omega), hp153, (fun g hg => by have := hbd157 g hg; omega), hp155⟩
          ·
            refine HB.eff 9 rfl rfl (by kernel_rfl) rfl rfl (eff_alloc rfl zn_38) ?_
            rintro _ w172 ⟨b171, rfl, hn173⟩
            obtain ⟨hn173e, hn173s, hn173x, hb174⟩ := hn173
            have hb174 : Box w172 b171 [.slice none 0 0, .slice none 0 0] 38 := hb174
            have hbs176 : Ext w102 w172 := Ext.trans hbs139 hn173x
            have he177 : Ext w w172 := Ext.trans he140 hn173x
            have hb8 := Box.ext hb8 hn173x
            have hb15 := Box.ext hb15 hn173x
            have hs122 := ownR.ext hs122 hn173x
            have hs138 := ownR.ext hs138 hn173x
            have hz178 := (hn173x).size
            have hlo175 : w.heap.size ≤ b171 := by rw [hn173e]; exact (he140).size
            refine ⟨hbs176, ?_⟩
            refine HL.eff 7 rfl rfl (by kernel_rfl) rfl rfl (eff_appendF (c := C_LatchLink) rfl Try.underlying36 in_77 rfl rfl rfl rfl rfl hs138 (by omega) (slRep.old ha4 he177 (Nat.le_refl _)) ha58) ?_
            rintro v179 w180 ⟨hs181, hgr182⟩
            have hbs184 : Ext w102 w180 := Below.trans hbs176 (Grew.low hgr182 (fun g hg => by have := hbd143 g hg; omega) (hbs176).size)
            have he185 : Ext w w180 := Below.trans he177 (Grew.low hgr182 (fun g hg => by have := hbd143 g hg; omega) (he177).size)
            have hp186 : ∀ g, v179.ownBlock = some g → g ≠ b5 := Grew.sepP (p := fun g => g ≠ b5) hgr182 (fun g hg => by have := hbd143 g hg; omega) (fun g hg => by omega)
            have hb8 := Grew.box hgr182 hb8 (fun g hg => by have := hbd143 g hg; omega)
            have hp187 : ∀ g, v179.ownBlock = some g → g ≠ b12 := Grew.sepP (p := fun g => g ≠ b12) hgr182 (fun g hg => by have := hbd143 g hg; omega) (fun g hg => by omega)
            have hb15 := Grew.box hgr182 hb15 (fun g hg => by have := hbd143 g hg; omega)
            have hp188 : ∀ g, v179.ownBlock = some g → g ≠ b171 := Grew.sepP (p := fun g => g ≠ b171) hgr182 (fun g hg => by have := hbd143 g hg; omega) (fun g hg => by omega)
            have hb174 := Grew.box hgr182 hb174 (fun g hg => by have := hbd143 g hg; omega)
            have hp189 : ∀ g q, v131.ownBlock = some g → v120.ownBlock = some q → g ≠ q := (fun g q hg hq => by have := hbd143 g hg; have := hbd130 q hq; omega)
            have hp190 : ∀ g q, v179.ownBlock = some g → v120.ownBlock = some q → g ≠ q := fun g q hg hq => Grew.sepP (p := fun g => ∀ q, v120.ownBlock = some q → g ≠ q) hgr182 (fun g hg q hq => (hp189) g q hg hq) (fun g hg q hq => by have := hbd130 q hq; omega) g hg q hq
            have hs122 := Grew.ownF hgr182 hs122 hp189
            have hz191 := (hgr182).1.size
            have hbd192 : ∀ g, v179.ownBlock = some g → g133 ≤ g ∧ g < w180.heap.size := Grew.bd hgr182 hs181 (fun g hg => ⟨by have := hbd143 g hg; omega, (hbd143 g hg).2⟩) (by omega) (by omega)
            refine ⟨hbs184, ?_⟩
            refine HL.yld 8 (by kernel_rfl) rfl (by kernel_rfl) rfl rfl (yld_build (uss := [(0, [v120]), (1, [v179])]) (out := [v120, v179]) rfl rfl zn_38 pl_38 (pt_cons (slRep.cl (ownR.slf hs122 (Nat.le_refl _) (Nat.le_refl _))) (pt_cons (slRep.cl (ownR.slf hs181 (Nat.le_refl _) (Nat.le_refl _))) rfl)) rfl) ?_
            refine HL.tail rfl (by kernel_rfl) rfl ?_
            refine TL.eff rfl rfl (eff_store rfl rfl rfl hb174 cn_38 (allc_cons (slRep.one (ownR.slf hs122 (Nat.le_refl _) (Nat.le_refl _))) (allc_cons (slRep.one (ownR.slf hs181 (Nat.le_refl _) (Nat.le_refl _))) allc_nil)) rfl) ?_
            rintro _ w193 ⟨hu194, hb195⟩
            have he196 : Ext w w193 := Below.trans he185 (Upd.below hu194 (by omega))
            have hb8 := Box.upd hb8 hu194 (by omega)
            have hb15 := Box.upd hb15 hu194 (by omega)
            have hs122 := ownR.upd hs122 hu194 (fun g hg => by have := hbd130 g hg; omega)
            have hs181 := ownR.upd hs181 hu194 hp188
            have hz197 := (hu194).size
            have hb174 : Box w193 b171 [v120, v179] 38 := hb195
            refine TL.noPan (l := []) ?_
            exact fun a hK => ⟨rfl, b171, v120, v179, hK.weaken ⟨rfl, rfl, rfl, trivial⟩, he196, (by omega), hb15, hb174, ⟨by omega, Box.lt hb174⟩, (ownR.base hs122 (by omega)), (fun g hg => by have := hbd130 g hg; omega), (ownR.base hs181 (by omega)), (fun g hg => by have := hbd192 g hg; omega), (by omega), hp128, (fun g hg => by have := hbd130 g hg; omega), hp187, hp188, hp190⟩
        ·
          refine HB.eff 9 rfl rfl (by kernel_rfl) rfl rfl (eff_alloc rfl zn_38) ?_
          rintro _ w199 ⟨b198, rfl, hn200⟩
          obtain ⟨hn200e, hn200s, hn200x, hb201⟩ := hn200
          have hb201 : Box w199 b198 [.slice none 0 0, .slice none 0 0] 38 := hb201
          have hbs203 : Ext w102 w199 := Ext.trans hbs125 hn200x
          have he204 : Ext w w199 := Ext.trans he126 hn200x
          have hb8 := Box.ext hb8 hn200x
          have hb15 := Box.ext hb15 hn200x
          have hs122 := ownR.ext hs122 hn200x
          have hz205 := (hn200x).size
          have hlo202 : w.heap.size ≤ b198 := by rw [hn200e]; exact (he126).size
          refine ⟨hbs203, ?_⟩
          refine HL.eff 4 rfl rfl (by kernel_rfl) rfl rfl (eff_buildSlice (c := C_LatchLink) (xs := ([] : List S_LatchLink)) (S := (Iv 0 0)) (uss := []) (out := []) rfl Try.underlying36 in_77 rfl rfl (fillL_all [] rfl rfl rfl) rfl rfl rfl rfl (one_rep (uss := []) (show reps _ _ _ _ _ from trivial) rfl) (fun k h => by have := h.2; omega) rfl) ?_
          rintro v206 w207 ⟨g208, hv209, hg210, hz211, hx212, hs213⟩
          have hbs214 : Ext w102 w207 := Ext.trans hbs203 hx212
          have he215 : Ext w w207 := Ext.trans he204 hx212
          have hb8 := Box.ext hb8 hx212
          have hb15 := Box.ext hb15 hx212
          have hb201 := Box.ext hb201 hx212
          have hs122 := ownR.ext hs122 hx212
          have hz216 := (hx212).size
          have hlo217 : w.heap.size ≤ g208 := by rw [hg210]; exact (he204).size
          have hbd218 := bd_of hv209
          clear hv209
          refine ⟨hbs214, ?_⟩
          refine HL.eff 7 rfl rfl (by kernel_rfl) rfl rfl (eff_appendF (c := C_LatchLink) rfl Try.underlying36 in_77 rfl rfl rfl rfl rfl hs213 (by omega) (slRep.old ha4 he215 (Nat.le_refl _)) ha58) ?_
          rintro v220 w221 ⟨hs222, hgr223⟩
          have hbs225 : Ext w102 w221 := Below.trans hbs214 (Grew.low hgr223 (fun g hg => by have := hbd218 g hg; omega) (hbs214).size)
          have he226 : Ext w w221 := Below.trans he215 (Grew.low hgr223 (fun g hg => by have := hbd218 g hg; omega) (he215).size)
          have hp227 : ∀ g, v220.ownBlock = some g → g ≠ b5 := Grew.sepP (p := fun g => g ≠ b5) hgr223 (fun g hg => by have := hbd218 g hg; omega) (fun g hg => by omega)
          have hb8 := Grew.box hgr223 hb8 (fun g hg => by have := hbd218 g hg; omega)
          have hp228 : ∀ g, v220.ownBlock = some g → g ≠ b12 := Grew.sepP (p := fun g => g ≠ b12) hgr223 (fun g hg => by have := hbd218 g hg; omega) (fun g hg => by omega)
          have hb15 := Grew.box hgr223 hb15 (fun g hg => by have := hbd218 g hg; omega)
          have hp229 : ∀ g, v220.ownBlock = some g → g ≠ b198 := Grew.sepP (p := fun g => g ≠ b198) hgr223 (fun g hg => by have := hbd218 g hg; omega) (fun g hg => by omega)
          have hb201 := Grew.box hgr223 hb201 (fun g hg => by have := hbd218 g hg; omega)
          have hp230 : ∀ g q, v206.ownBlock = some g → v120.ownBlock = some q → g ≠ q := (fun g q hg hq => by have := hbd218 g hg; have := hbd130 q hq; omega)
          have hp231 : ∀ g q, v220.ownBlock = some g → v120.ownBlock = some q → g ≠ q := fun g q hg hq => Grew.sepP (p := fun g => ∀ q, v120.ownBlock = some q → g ≠ q) hgr223 (fun g hg q hq => (hp230) g q hg hq) (fun g hg q hq => by have := hbd130 q hq; omega) g hg q hq
          have hs122 := Grew.ownF hgr223 hs122 hp230
          have hz232 := (hgr223).1.size
          have hbd233 : ∀ g, v220.ownBlock = some g → g208 ≤ g ∧ g < w221.heap.size := Grew.bd hgr223 hs222 (fun g hg => ⟨by have := hbd218 g hg; omega, (hbd218 g hg).2⟩) (by omega) (by omega)
          refine ⟨hbs225, ?_⟩
          refine HL.yld 8 (by kernel_rfl) rfl (by kernel_rfl) rfl rfl (yld_build (uss := [(0, [v120]), (1, [v220])]) (out := [v120, v220]) rfl rfl zn_38 pl_38 (pt_cons (slRep.cl (ownR.slf hs122 (Nat.le_refl _) (Nat.le_refl _))) (pt_cons (slRep.cl (ownR.slf hs222 (Nat.le_refl _) (Nat.le_refl _))) rfl)) rfl) ?_
          refine HL.tail rfl (by kernel_rfl) rfl ?_
          refine TL.eff rfl rfl (eff_store rfl rfl rfl hb201 cn_38 (allc_cons (slRep.one (ownR.slf hs122 (Nat.le_refl _) (Nat.le_refl _))) (allc_cons (slRep.one (ownR.slf hs222 (Nat.le_refl _) (Nat.le_refl _))) allc_nil)) rfl) ?_
          rintro _ w234 ⟨hu235, hb236⟩
          have he237 : Ext w w234 := Below.trans he226 (Upd.below hu235 (by omega))
          have hb8 := Box.upd hb8 hu235 (by omega)
          have hb15 := Box.upd hb15 hu235 (by omega)
          have hs122 := ownR.upd hs122 hu235 (fun g hg => by have := hbd130 g hg; omega)
          have hs222 := ownR.upd hs222 hu235 hp229
          have hz238 := (hu235).size
          have hb201 : Box w234 b198 [v120, v220] 38 := hb236
          refine TL.noPan (l := []) ?_
          exact fun a hK => ⟨rfl, b198, v120, v220, hK.weaken ⟨rfl, rfl, rfl, trivial⟩, he237, (by omega), hb15, hb201, ⟨by omega, Box.lt hb201⟩, (ownR.base hs122 (by omega)), (fun g hg => by have := hbd130 g hg; omega), (ownR.base hs222 (by omega)), (fun g hg => by have := hbd233 g hg; omega), (by omega), hp128, (fun g hg => by have := hbd130 g hg; omega), hp228, hp229, hp231⟩
      ·
        refine HB.eff 4 rfl rfl (by kernel_rfl) rfl rfl (eff_buildSlice (c := C_LatchLink) (xs := ([] : List S_LatchLink)) (S := (Iv 0 0)) (uss := []) (out := []) rfl Try.underlying36 in_77 rfl rfl (fillL_all [] rfl rfl rfl) rfl rfl rfl rfl (one_rep (uss := []) (show reps _ _ _ _ _ from trivial) rfl) (fun k h => by have := h.2; omega) rfl) ?_
        rintro v239 w240 ⟨g241, hv242, hg243, hz244, hx245, hs246⟩
        have hbs247 : Ext w102 w240 := Ext.trans hbs114 hx245
        have he248 : Ext w w240 := Ext.trans he115 hx245
        have hb8 := Box.ext hb8 hx245
        have hb15 := Box.ext hb15 hx245
        have hs113 := ownR.ext hs113 hx245
        have hz249 := (hx245).size
        have hlo250 : w.heap.size ≤ g241 := by rw [hg243]; exact (he115).size
        have hbd251 := bd_of hv242
        clear hv242
        refine ⟨hbs247, ?_⟩
        refine HL.many (js := [3, 9]) (by kernel_rfl) rfl (all_two ?_ ?_)
        ·
          refine HB.eff 3 rfl rfl (by kernel_rfl) rfl rfl (eff_appendF (c := C_Latch) rfl Try.underlying35 in_50 rfl rfl rfl rfl rfl hs113 (by omega) (slRep.old ha2 he248 (Nat.le_refl _)) ha33) ?_
          rintro v253 w254 ⟨hs255, hgr256⟩
          have hbs258 : Ext w102 w254 := Below.trans hbs247 (Grew.low hgr256 (fun g hg => by have := hbd118 g hg; omega) (hbs247).size)
          have he259 : Ext w w254 := Below.trans he248 (Grew.low hgr256 (fun g hg => by have := hbd118 g hg; omega) (he248).size)
          have hp260 : ∀ g, v253.ownBlock = some g → g ≠ b5 := Grew.sepP (p := fun g => g ≠ b5) hgr256 (fun g hg => by have := hbd118 g hg; omega) (fun g hg => by omega)
          have hb8 := Grew.box hgr256 hb8 (fun g hg => by have := hbd118 g hg; omega)
          have hp261 : ∀ g, v253.ownBlock = some g → g ≠ b12 := Grew.sepP (p := fun g => g ≠ b12) hgr256 (fun g hg => by have := hbd118 g hg; omega) (fun g hg => by omega)
          have hb15 := Grew.box hgr256 hb15 (fun g hg => by have := hbd118 g hg; omega)
          have hp262 : ∀ g q, v106.ownBlock = some g → v239.ownBlock = some q → g ≠ q := (fun g q hg hq => by have := hbd118 g hg; have := hbd251 q hq; omega)
          have hp263 : ∀ g q, v253.ownBlock = some g → v239.ownBlock = some q → g ≠ q := fun g q hg hq => Grew.sepP (p := fun g => ∀ q, v239.ownBlock = some q → g ≠ q) hgr256 (fun g hg q hq => (hp262) g q hg hq) (fun g hg q hq => by have := hbd251 q hq; omega) g hg q hq
          have hs246 := Grew.ownF hgr256 hs246 hp262
          have hz264 := (hgr256).1.size
          have hbd265 : ∀ g, v253.ownBlock = some g → g108 ≤ g ∧ g < w254.heap.size := Grew.bd hgr256 hs255 (fun g hg => ⟨by have := hbd118 g hg; omega, (hbd118 g hg).2⟩) (by omega) (by omega)
          refine ⟨hbs258, ?_⟩
          refine HL.many (js := [7, 9]) (by kernel_rfl) rfl (all_two ?_ ?_)
          ·
            refine HB.eff 7 rfl rfl (by kernel_rfl) rfl rfl (eff_appendF (c := C_LatchLink) rfl Try.underlying36 in_77 rfl rfl rfl rfl rfl hs246 (by omega) (slRep.old ha4 he259 (Nat.le_refl _)) ha58) ?_
            rintro v266 w267 ⟨hs268, hgr269⟩
            have hbs271 : Ext w102 w267 := Below.trans hbs258 (Grew.low hgr269 (fun g hg => by have := hbd251 g hg; omega) (hbs258).size)
            have he272 : Ext w w267 := Below.trans he259 (Grew.low hgr269 (fun g hg => by have := hbd251 g hg; omega) (he259).size)
            have hp273 : ∀ g, v266.ownBlock = some g → g ≠ b5 := Grew.sepP (p := fun g => g ≠ b5) hgr269 (fun g hg => by have := hbd251 g hg; omega) (fun g hg => by omega)
            have hb8 := Grew.box hgr269 hb8 (fun g hg => by have := hbd251 g hg; omega)
            have hp274 : ∀ g, v266.ownBlock = some g → g ≠ b12 := Grew.sepP (p := fun g => g ≠ b12) hgr269 (fun g hg => by have := hbd251 g hg; omega) (fun g hg => by omega)
            have hb15 := Grew.box hgr269 hb15 (fun g hg => by have := hbd251 g hg; omega)
            have hp275 : ∀ g q, v239.ownBlock = some g → v253.ownBlock = some q → g ≠ q := (fun g q hg hq e => hp263 q g hq hg e.symm)
            have hp276 : ∀ g q, v266.ownBlock = some g → v253.ownBlock = some q → g ≠ q := fun g q hg hq => Grew.sepP (p := fun g => ∀ q, v253.ownBlock = some q → g ≠ q) hgr269 (fun g hg q hq => (hp275) g q hg hq) (fun g hg q hq => by have := hbd265 q hq; omega) g hg q hq
            have hs255 := Grew.ownF hgr269 hs255 hp275
            have hz277 := (hgr269).1.size
            have hbd278 : ∀ g, v266.ownBlock = some g → g241 ≤ g ∧ g < w267.heap.size := Grew.bd hgr269 hs268 (fun g hg => ⟨by have := hbd251 g hg; omega, (hbd251 g hg).2⟩) (by omega) (by omega)
            refine ⟨hbs271, ?_⟩
            refine HL.yld 8 (by kernel_rfl) rfl (by kernel_rfl) rfl rfl (yld_build (uss := [(0, [v253]), (1, [v266])]) (out := [v253, v266]) rfl rfl zn_38 pl_38 (pt_cons (slRep.cl (ownR.slf hs255 (Nat.le_refl _) (Nat.le_refl _))) (pt_cons (slRep.cl (ownR.slf hs268 (Nat.le_refl _) (Nat.le_refl _))) rfl)) rfl) ?_
            refine HL.eff 9 rfl rfl (by kernel_rfl) rfl rfl (eff_alloc rfl zn_38) ?_
            rintro _ w280 ⟨b279, rfl, hn281⟩
            obtain ⟨hn281e, hn281s, hn281x, hb282⟩ := hn281
            have hb282 : Box w280 b279 [.slice none 0 0, .slice none 0 0] 38 := hb282
            have hbs284 : Ext w102 w280 := Ext.trans hbs271 hn281x
            have he285 : Ext w w280 := Ext.trans he272 hn281x
            have hb8 := Box.ext hb8 hn281x
            have hb15 := Box.ext hb15 hn281x
            have hs255 := ownR.ext hs255 hn281x
            have hs268 := ownR.ext hs268 hn281x
            have hz286 := (hn281x).size
            have hlo283 : w.heap.size ≤ b279 := by rw [hn281e]; exact (he272).size
            refine ⟨hbs284, ?_⟩
            refine HL.tail rfl (by kernel_rfl) rfl ?_
            refine TL.eff rfl rfl (eff_store rfl rfl rfl hb282 cn_38 (allc_cons (slRep.one (ownR.slf hs255 (Nat.le_refl _) (Nat.le_refl _))) (allc_cons (slRep.one (ownR.slf hs268 (Nat.le_refl _) (Nat.le_refl _))) allc_nil)) rfl) ?_
            rintro _ w287 ⟨hu288, hb289⟩
            have he290 : Ext w w287 := Below.trans he285 (Upd.below hu288 (by omega))
            have hb8 := Box.upd hb8 hu288 (by omega)
            have hb15 := Box.upd hb15 hu288 (by omega)
            have hs255 := ownR.upd hs255 hu288 (fun g hg => by have := hbd265 g hg; omega)
            have hs268 := ownR.upd hs268 hu288 (fun g hg => by have := hbd278 g hg; omega)
            have hz291 := (hu288).size
            have hb282 : Box w287 b279 [v253, v266] 38 := hb289
            refine TL.noPan (l := []) ?_
            exact fun a hK => ⟨rfl, b279, v253, v266, hK.weaken ⟨rfl, rfl, rfl, trivial⟩, he290, (by omega), hb15, hb282, ⟨by omega, Box.lt hb282⟩, (ownR.base hs255 (by omega)), (fun g hg => by have := hbd265 g hg; omega), (ownR.base hs268 (by omega)), (fun g hg => by have := hbd278 g hg; omega), (by omega), hp261, (fun g hg => by have := hbd265 g hg; omega), hp274, (fun g hg => by have := hbd278 g hg; omega), hp276⟩
          ·
            refine HB.eff 9 rfl rfl (by kernel_rfl) rfl rfl (eff_alloc rfl zn_38) ?_
            rintro _ w293 ⟨b292, rfl, hn294⟩
            obtain ⟨hn294e, hn294s, hn294x, hb295⟩ := hn294
            have hb295 : Box w293 b292 [.slice none 0 0, .slice none 0 0] 38 := hb295
            have hbs297 : Ext w102 w293 := Ext.trans hbs258 hn294x
            have he298 : Ext w w293 := Ext.trans he259 hn294x
            have hb8 := Box.ext hb8 hn294x
            have hb15 := Box.ext hb15 hn294x
            have hs246 := ownR.ext hs246 hn294x
            have hs255 := ownR.ext hs255 hn294x
            have hz299 := (hn294x).size
            have hlo296 : w.heap.size ≤ b292 := by rw [hn294e]; exact (he259).size
            refine ⟨hbs297, ?_⟩
            refine HL.eff 7 rfl rfl (by kernel_rfl) rfl rfl (eff_appendF (c := C_LatchLink) rfl Try.underlying36 in_77 rfl rfl rfl rfl rfl hs246 (by omega) (slRep.old ha4 he298 (Nat.le_refl _)) ha58) ?_
            rintro v300 w301 ⟨hs302, hgr303⟩
            have hbs305 : Ext w102 w301 := Below.trans hbs297 (Grew.low hgr303 (fun g hg => by have := hbd251 g hg; omega) (hbs297).size)
            have he306 : Ext w w301 := Below.trans he298 (Grew.low hgr303 (fun g hg => by have := hbd251 g hg; omega) (he298).size)
            have hp307 : ∀ g, v300.ownBlock = some g → g ≠ b5 := Grew.sepP (p := fun g => g ≠ b5) hgr303 (fun g hg => by have := hbd251 g hg; omega) (fun g hg => by omega)
            have hb8 := Grew.box hgr303 hb8 (fun g hg => by have := hbd251 g hg; omega)
            have hp308 : ∀ g, v300.ownBlock = some g → g ≠ b12 := Grew.sepP (p := fun g => g ≠ b12) hgr303 (fun g hg => by have := hbd251 g hg; omega) (fun g hg => by omega)
            have hb15 := Grew.box hgr303 hb15 (fun g hg => by have := hbd251 g hg; omega)
            have hp309 : ∀ g, v300.ownBlock = some g → g ≠ b292 := Grew.sepP (p := fun g => g ≠ b292) hgr303 (fun g hg => by have := hbd251 g hg; omega) (fun g hg => by omega)
            have hb295 := Grew.box hgr303 hb295 (fun g hg => by have := hbd251 g hg; omega)
            have hp310 : ∀ g q, v239.ownBlock = some g → v253.ownBlock = some q → g ≠ q := (fun g q hg hq e => hp263 q g hq hg e.symm)
            have hp311 : ∀ g q, v300.ownBlock = some g → v253.ownBlock = some q → g ≠ q := fun g q hg hq => Grew.sepP (p := fun g => ∀ q, v253.ownBlock = some q → g ≠ q) hgr303 (fun g hg q hq => (hp310) g q hg hq) (fun g hg q hq => by have := hbd265 q hq; omega) g hg q hq
            have hs255 := Grew.ownF hgr303 hs255 hp310
            have hz312 := (hgr303).1.size
            have hbd313 : ∀ g, v300.ownBlock = some g → g241 ≤ g ∧ g < w301.heap.size := Grew.bd hgr303 hs302 (fun g hg => ⟨by have := hbd251 g hg; omega, (hbd251 g hg).2⟩) (by omega) (by omega)
            refine ⟨hbs305, ?_⟩
            refine HL.yld 8 (by kernel_rfl) rfl (by kernel_rfl) rfl rfl (yld_build (uss := [(0, [v253]), (1, [v300])]) (out := [v253, v300]) rfl rfl zn_38 pl_38 (pt_cons (slRep.cl (ownR.slf hs255 (Nat.le_refl _) (Nat.le_refl _))) (pt_cons (slRep.cl (ownR.slf hs302 (Nat.le_refl _) (Nat.le_refl _))) rfl)) rfl) ?_
            refine HL.tail rfl (by kernel_rfl) rfl ?_
            refine TL.eff rfl rfl (eff_store rfl rfl rfl hb295 cn_38 (allc_cons (slRep.one (ownR.slf hs255 (Nat.le_refl _) (Nat.le_refl _))) (allc_cons (slRep.one (ownR.slf hs302 (Nat.le_refl _) (Nat.le_refl _))) allc_nil)) rfl) ?_
            rintro _ w314 ⟨hu315, hb316⟩
            have he317 : Ext w w314 := Below.trans he306 (Upd.below hu315 (by omega))
            have hb8 := Box.upd hb8 hu315 (by omega)
            have hb15 := Box.upd hb15 hu315 (by omega)
            have hs255 := ownR.upd hs255 hu315 (fun g hg => by have := hbd265 g hg; omega)
            have hs302 := ownR.upd hs302 hu315 hp309
            have hz318 := (hu315).size
            have hb295 : Box w314 b292 [v253, v300] 38 := hb316
            refine TL.noPan (l := []) ?_
            exact fun a hK => ⟨rfl, b292, v253, v300, hK.weaken ⟨rfl, rfl, rfl, trivial⟩, he317, (by omega), hb15, hb295, ⟨by omega, Box.lt hb295⟩, (ownR.base hs255 (by omega)), (fun g hg => by have := hbd265 g hg; omega), (ownR.base hs302 (by omega)), (fun g hg => by have := hbd313 g hg; omega), (by omega), hp261, (fun g hg => by have := hbd265 g hg; omega), hp308, hp309, hp311⟩
        ·
          refine HB.eff 9 rfl rfl (by kernel_rfl) rfl rfl (eff_alloc rfl zn_38) ?_
          rintro _ w320 ⟨b319, rfl, hn321⟩
          obtain ⟨hn321e, hn321s, hn321x, hb322⟩ := hn321
          have hb322 : Box w320 b319 [.slice none 0 0, .slice none 0 0] 38 := hb322
          have hbs324 : Ext w102 w320 := Ext.trans hbs247 hn321x
          have he325 : Ext w w320 := Ext.trans he248 hn321x
          have hb8 := Box.ext hb8 hn321x
          have hb15 := Box.ext hb15 hn321x
          have hs113 := ownR.ext hs113 hn321x
          have hs246 := ownR.ext hs246 hn321x
          have hz326 := (hn321x).size
          have hlo323 : w.heap.size ≤ b319 := by rw [hn321e]; exact (he248).size
          refine ⟨hbs324, ?_⟩
          refine HL.eff 3 rfl rfl (by kernel_rfl) rfl rfl (eff_appendF (c := C_Latch) rfl Try.underlying35 in_50 rfl rfl rfl rfl rfl hs113 (by omega) (slRep.old ha2 he325 (Nat.le_refl _)) ha33) ?_
          rintro v327 w328 ⟨hs329, hgr330⟩
          have hbs332 : Ext w102 w328 := Below.trans hbs324 (Grew.low hgr330 (fun g hg => by have := hbd118 g hg; omega) (hbs324).size)
          have he333 : Ext w w328 := Below.trans he325 (Grew.low hgr330 (fun g hg => by have := hbd118 g hg; omega) (he325).size)
          have hp334 : ∀ g, v327.ownBlock = some g → g ≠ b5 := Grew.sepP (p := fun g => g ≠ b5) hgr330 (fun g hg => by have := hbd118 g hg; omega) (fun g hg => by omega)
          have hb8 := Grew.box hgr330 hb8 (fun g hg => by have := hbd118 g hg; omega)
          have hp335 : ∀ g, v327.ownBlock = some g → g ≠ b12 := Grew.sepP (p := fun g => g ≠ b12) hgr330 (fun g hg => by have := hbd118 g hg; omega) (fun g hg => by omega)
          have hb15 := Grew.box hgr330 hb15 (fun g hg => by have := hbd118 g hg; omega)
          have hp336 : ∀ g, v327.ownBlock = some g → g ≠ b319 := Grew.sepP (p := fun g => g ≠ b319) hgr330 (fun g hg => by have := hbd118 g hg; omega) (fun g hg => by omega)
          have hb322 := Grew.box hgr330 hb322 (fun g hg => by have := hbd118 g hg; omega)
          have hp337 : ∀ g q, v106.ownBlock = some g → v239.ownBlock = some q → g ≠ q := (fun g q hg hq => by have := hbd118 g hg; have := hbd251 q hq; omega)
          have hp338 : ∀ g q, v327.ownBlock = some g → v239.ownBlock = some q → g ≠ q := fun g q hg hq => Grew.sepP (p := fun g => ∀ q, v239.ownBlock = some q → g ≠ q) hgr330 (fun g hg q hq => (hp337) g q hg hq) (fun g hg q hq => by have := hbd251 q hq; omega) g hg q hq
          have hs246 := Grew.ownF hgr330 hs246 hp337
          have hz339 := (hgr330).1.size
          have hbd340 : ∀ g, v327.ownBlock = some g → g108 ≤ g ∧ g < w328.heap.size := Grew.bd hgr330 hs329 (fun g hg => ⟨by have := hbd118 g hg; omega, (hbd118 g hg).2⟩) (by omega) (by omega)
          refine ⟨hbs332, ?_⟩
          refine HL.eff 7 rfl rfl (by kernel_rfl) rfl rfl (eff_appendF (c := C_LatchLink) rfl Try.underlying36 in_77 rfl rfl rfl rfl rfl hs246 (by omega) (slRep.old ha4 he333 (Nat.le_refl _)) ha58) ?_
          rintro v341 w342 ⟨hs343, hgr344⟩
          have hbs346 : Ext w102 w342 := Below.trans hbs332 (Grew.low hgr344 (fun g hg => by have := hbd251 g hg; omega) (hbs332).size)
          have he347 : Ext w w342 := Below.trans he333 (Grew.low hgr344 (fun g hg => by have := hbd251 g hg; omega) (he333).size)
          have hp348 : ∀ g, v341.ownBlock = some g → g ≠ b5 := Grew.sepP (p := fun g => g ≠ b5) hgr344 (fun g hg => by have := hbd251 g hg; omega) (fun g hg => by omega)
          have hb8 := Grew.box hgr344 hb8 (fun g hg => by have := hbd251 g hg; omega)
          have hp349 : ∀ g, v341.ownBlock = some g → g ≠ b12 := Grew.sepP (p := fun g => g ≠ b12) hgr344 (fun g hg => by have := hbd251 g hg; omega) (fun g hg => by omega)
          have hb15 := Grew.box hgr344 hb15 (fun g hg => by have := hbd251 g hg; omega)
          have hp350 : ∀ g, v341.ownBlock = some g → g ≠ b319 := Grew.sepP (p := fun g => g ≠ b319) hgr344 (fun g hg => by have := hbd251 g hg; omega) (fun g hg => by omega)
          have hb322 := Grew.box hgr344 hb322 (fun g hg => by have := hbd251 g hg; omega)
          have hp351 : ∀ g q, v239.ownBlock = some g → v327.ownBlock = some q → g ≠ q := (fun g q hg hq e => hp338 q g hq hg e.symm)
          have hp352 : ∀ g q, v341.ownBlock = some g → v327.ownBlock = some q → g ≠ q := fun g q hg hq => Grew.sepP (p := fun g => ∀ q, v327.ownBlock = some q → g ≠ q) hgr344 (fun g hg q hq => (hp351) g q hg hq) (fun g hg q hq => by have := hbd340 q hq; omega) g hg q hq
          have hs329 := Grew.ownF hgr344 hs329 hp351
          have hz353 := (hgr344).1.size
          have hbd354 : ∀ g, v341.ownBlock = some g → g241 ≤ g ∧ g < w342.heap.size := Grew.bd hgr344 hs343 (fun g hg => ⟨by have := hbd251 g hg; omega, (hbd251 g hg).2⟩) (by omega) (by omega)
          refine ⟨hbs346, ?_⟩
          refine HL.yld 8 (by kernel_rfl) rfl (by kernel_rfl) rfl rfl (yld_build (uss := [(0, [v327]), (1, [v341])]) (out := [v327, v341]) rfl rfl zn_38 pl_38 (pt_cons (slRep.cl (ownR.slf hs329 (Nat.le_refl _) (Nat.le_refl _))) (pt_cons (slRep.cl (ownR.slf hs343 (Nat.le_refl _) (Nat.le_refl _))) rfl)) rfl) ?_
          refine HL.tail rfl (by kernel_rfl) rfl ?_
          refine TL.eff rfl rfl (eff_store rfl rfl rfl hb322 cn_38 (allc_cons (slRep.one (ownR.slf hs329 (Nat.le_refl _) (Nat.le_refl _))) (allc_cons (slRep.one (ownR.slf hs343 (Nat.le_refl _) (Nat.le_refl _))) allc_nil)) rfl) ?_
          rintro _ w355 ⟨hu356, hb357⟩
          have he358 : Ext w w355 := Below.trans he347 (Upd.below hu356 (by omega))
          have hb8 := Box.upd hb8 hu356 (by omega)
          have hb15 := Box.upd hb15 hu356 (by omega)
          have hs329 := ownR.upd hs329 hu356 hp336
          have hs343 := ownR.upd hs343 hu356 hp350
          have hz359 := (hu356).size
          have hb322 : Box w355 b319 [v327, v341] 38 := hb357
          refine TL.noPan (l := []) ?_
          exact fun a hK => ⟨rfl, b319, v327, v341, hK.weaken ⟨rfl, rfl, rfl, trivial⟩, he358, (by omega), hb15, hb322, ⟨by omega, Box.lt hb322⟩, (ownR.base hs329 (by omega)), (fun g hg => by have := hbd340 g hg; omega), (ownR.base hs343 (by omega)), (fun g hg => by have := hbd354 g hg; omega), (by omega), hp335, hp336, hp349, hp350, hp352⟩
      ·
        refine HB.eff 9 rfl rfl (by kernel_rfl) rfl rfl (eff_alloc rfl zn_38) ?_
        rintro _ w361 ⟨b360, rfl, hn362⟩
        obtain ⟨hn362e, hn362s, hn362x, hb363⟩ := hn362
        have hb363 : Box w361 b360 [.slice none 0 0, .slice none 0 0] 38 := hb363
        have hbs365 : Ext w102 w361 := Ext.trans hbs114 hn362x
        have he366 : Ext w w361 := Ext.trans he115 hn362x
        have hb8 := Box.ext hb8 hn362x
        have hb15 := Box.ext hb15 hn362x
        have hs113 := ownR.ext hs113 hn362x
        have hz367 := (hn362x).size
        have hlo364 : w.heap.size ≤ b360 := by rw [hn362e]; exact (he115).size
        refine ⟨hbs365, ?_⟩
        refine HL.many (js := [3, 4]) (by kernel_rfl) rfl (all_two ?_ ?_)
        ·
          refine HB.eff 3 rfl rfl (by kernel_rfl) rfl rfl (eff_appendF (c := C_Latch) rfl Try.underlying35 in_50 rfl rfl rfl rfl rfl hs113 (by omega) (slRep.old ha2 he366 (Nat.le_refl _)) ha33) ?_
          rintro v368 w369 ⟨hs370, hgr371⟩
          have hbs373 : Ext w102 w369 := Below.trans hbs365 (Grew.low hgr371 (fun g hg => by have := hbd118 g hg; omega) (hbs365).size)
          have he374 : Ext w w369 := Below.trans he366 (Grew.low hgr371 (fun g hg => by have := hbd118 g hg; omega) (he366).size)
          have hp375 : ∀ g, v368.ownBlock = some g → g ≠ b5 := Grew.sepP (p := fun g => g ≠ b5) hgr371 (fun g hg => by have := hbd118 g hg; omega) (fun g hg => by omega)
          have hb8 := Grew.box hgr371 hb8 (fun g hg => by have := hbd118 g hg; omega)
          have hp376 : ∀ g, v368.ownBlock = some g → g ≠ b12 := Grew.sepP (p := fun g => g ≠ b12) hgr371 (fun g hg => by have := hbd118 g hg; omega) (fun g hg => by omega)
          have hb15 := Grew.box hgr371 hb15 (fun g hg => by have := hbd118 g hg; omega)
          have hp377 : ∀ g, v368.ownBlock = some g → g ≠ b360 := Grew.sepP (p := fun g => g ≠ b360) hgr371 (fun g hg => by have := hbd118 g hg; omega) (fun g hg => by omega)
          have hb363 := Grew.box hgr371 hb363 (fun g hg => by have := hbd118 g hg; omega)
          have hz378 := (hgr371).1.size
          have hbd379 : ∀ g, v368.ownBlock = some g → g108 ≤ g ∧ g < w369.heap.size := Grew.bd hgr371 hs370 (fun g hg => ⟨by have := hbd118 g hg; omega, (hbd118 g hg).2⟩) (by omega) (by omega)
          refine ⟨hbs373, ?_⟩
          refine HL.eff 4 rfl rfl (by kernel_rfl) rfl rfl (eff_buildSlice (c := C_LatchLink) (xs := ([] : List S_LatchLink)) (S := (Iv 0 0)) (uss := []) (out := []) rfl Try.underlying36 in_77 rfl rfl (fillL_all [] rfl rfl rfl) rfl rfl rfl rfl (one_rep (uss := []) (show reps _ _ _ _ _ from trivial) rfl) (fun k h => by have := h.2; omega) rfl) ?_
          rintro v380 w381 ⟨g382, hv383, hg384, hz385, hx386, hs387⟩
          have hbs388 : Ext w102 w381 := Ext.trans hbs373 hx386
          have he389 : Ext w w381 := Ext.trans he374 hx386
          have hb8 := Box.ext hb8 hx386
          have hb15 := Box.ext hb15 hx386
          have hb363 := Box.ext hb363 hx386
          have hs370 := ownR.ext hs370 hx386
          have hz390 := (hx386).size
          have hlo391 : w.heap.size ≤ g382 := by rw [hg384]; exact (he374).size
          have hbd392 := bd_of hv383
          clear hv383
          refine ⟨hbs388, ?_⟩
          refine HL.eff 7 rfl rfl (by kernel_rfl) rfl rfl (eff_appendF (c := C_LatchLink) rfl Try.underlying36 in_77 rfl rfl rfl rfl rfl hs387 (by omega) (slRep.old ha4 he389 (Nat.le_refl _)) ha58) ?_
          rintro v394 w395 ⟨hs396, hgr397⟩
          have hbs399 : Ext w102 w395 := Below.trans hbs388 (Grew.low hgr397 (fun g hg => by have := hbd392 g hg; omega) (hbs388).size)
          have he400 : Ext w w395 := Below.trans he389 (Grew.low hgr397 (fun g hg => by have := hbd392 g hg; omega) (he389).size)
          have hp401 : ∀ g, v394.ownBlock = some g → g ≠ b5 := Grew.sepP (p := fun g => g ≠ b5) hgr397 (fun g hg => by have := hbd392 g hg; omega) (fun g hg => by omega)
          have hb8 := Grew.box hgr397 hb8 (fun g hg => by have := hbd392 g hg; omega)
          have hp402 : ∀ g, v394.ownBlock = some g → g ≠ b12 := Grew.sepP (p := fun g => g ≠ b12) hgr397 (fun g hg => by have := hbd392 g hg; omega) (fun g hg => by omega)
          have hb15 := Grew.box hgr397 hb15 (fun g hg => by have := hbd392 g hg; omega)
          have hp403 : ∀ g, v394.ownBlock = some g → g ≠ b360 := Grew.sepP (p := fun g => g ≠ b360) hgr397 (fun g hg => by have := hbd392 g hg; omega) (fun g hg => by omega)
          have hb363 := Grew.box hgr397 hb363 (fun g hg => by have := hbd392 g hg; omega)
          have hp404 : ∀ g q, v380.ownBlock = some g → v368.ownBlock = some q → g ≠ q := (fun g q hg hq => by have := hbd392 g hg; have := hbd379 q hq; omega)
          have hp405 : ∀ g q, v394.ownBlock = some g → v368.ownBlock = some q → g ≠ q := fun g q hg hq => Grew.sepP (p := fun g => ∀ q, v368.ownBlock = some q → g ≠ q) hgr397 (fun g hg q hq => (hp404) g q hg hq) (fun g hg q hq => by have := hbd379 q hq; omega) g hg q hq
          have hs370 := Grew.ownF hgr397 hs370 hp404
          have hz406 := (hgr397).1.size
          have hbd407 : ∀ g, v394.ownBlock = some g → g382 ≤ g ∧ g < w395.heap.size := Grew.bd hgr397 hs396 (fun g hg => ⟨by have := hbd392 g hg; omega, (hbd392 g hg).2⟩) (by omega) (by omega)
          refine ⟨hbs399, ?_⟩
          refine HL.yld 8 (by kernel_rfl) rfl (by kernel_rfl) rfl rfl (yld_build (uss := [(0, [v368]), (1, [v394])]) (out := [v368, v394]) rfl rfl zn_38 pl_38 (pt_cons (slRep.cl (ownR.slf hs370 (Nat.le_refl _) (Nat.le_refl _))) (pt_cons (slRep.cl (ownR.slf hs396 (Nat.le_refl _) (Nat.le_refl _))) rfl)) rfl) ?_
          refine HL.tail rfl (by kernel_rfl) rfl ?_
          refine TL.eff rfl rfl (eff_store rfl rfl rfl hb363 cn_38 (allc_cons (slRep.one (ownR.slf hs370 (Nat.le_refl _) (Nat.le_refl _))) (allc_cons (slRep.one (ownR.slf hs396 (Nat.le_refl _) (Nat.le_refl _))) allc_nil)) rfl) ?_
          rintro _ w408 ⟨hu409, hb410⟩
          have he411 : Ext w w408 := Below.trans he400 (Upd.below hu409 (by omega))
          have hb8 := Box.upd hb8 hu409 (by omega)
          have hb15 := Box.upd hb15 hu409 (by omega)
          have hs370 := ownR.upd hs370 hu409 hp377
          have hs396 := ownR.upd hs396 hu409 hp403
          have hz412 := (hu409).size
          have hb363 : Box w408 b360 [v368, v394] 38 := hb410
          refine TL.noPan (l := []) ?_
          exact fun a hK => ⟨rfl, b360, v368, v394, hK.weaken ⟨rfl, rfl, rfl, trivial⟩, he411, (by omega), hb15, hb363, ⟨by omega, Box.lt hb363⟩, (ownR.base hs370 (by omega)), (fun g hg => by have := hbd379 g hg; omega), (ownR.base hs396 (by omega)), (fun g hg => by have := hbd407 g hg; omega), (by omega), hp376, hp377, hp402, hp403, hp405⟩
        ·
          refine HB.eff 4 rfl rfl (by kernel_rfl) rfl rfl (eff_buildSlice (c := C_LatchLink) (xs := ([] : List S_LatchLink)) (S := (Iv 0 0)) (uss := []) (out := []) rfl Try.underlying36 in_77 rfl rfl (fillL_all [] rfl rfl rfl) rfl rfl rfl rfl (one_rep (uss := []) (show reps _ _ _ _ _ from trivial) rfl) (fun k h => by have := h.2; omega) rfl) ?_
          rintro v413 w414 ⟨g415, hv416, hg417, hz418, hx419, hs420⟩
          have hbs421 : Ext w102 w414 := Ext.trans hbs365 hx419
          have he422 : Ext w w414 := Ext.trans he366 hx419
          have hb8 := Box.ext hb8 hx419
          have hb15 := Box.ext hb15 hx419
          have hb363 := Box.ext hb363 hx419
          have hs113 := ownR.ext hs113 hx419
          have hz423 := (hx419).size
          have hlo424 : w.heap.size ≤ g415 := by rw [hg417]; exact (he366).size
          have hbd425 := bd_of hv416
          clear hv416
          refine ⟨hbs421, ?_⟩
          refine HL.eff 3 rfl rfl (by kernel_rfl) rfl rfl (eff_appendF (c := C_Latch) rfl Try.underlying35 in_50 rfl rfl rfl rfl rfl hs113 (by omega) (slRep.old ha2 he422 (Nat.le_refl _)) ha33) ?_
          rintro v427 w428 ⟨hs429, hgr430⟩
          have hbs432 : Ext w102 w428 := Below.trans hbs421 (Grew.low hgr430 (fun g hg => by have := hbd118 g hg; omega) (hbs421).size)
          have he433 : Ext w w428 := Below.trans he422 (Grew.low hgr430 (fun g hg => by have := hbd118 g hg; omega) (he422).size)
          have hp434 : ∀ g, v427.ownBlock = some g → g ≠ b5 := Grew.sepP (p := fun g => g ≠ b5) hgr430 (fun g hg => by have := hbd118 g hg; omega) (fun g hg => by omega)
          have hb8 := Grew.box hgr430 hb8 (fun g hg => by have := hbd118 g hg; omega)
          have hp435 : ∀ g, v427.ownBlock = some g → g ≠ b12 := Grew.sepP (p := fun g => g ≠ b12) hgr430 (fun g hg => by have := hbd118 g hg; omega) (fun g hg => by omega)
          have hb15 := Grew.box hgr430 hb15 (fun g hg => by have := hbd118 g hg; omega)
          have hp436 : ∀ g, v427.ownBlock = some g → g ≠ b360 := Grew.sepP (p := fun g => g ≠ b360) hgr430 (fun g hg => by have := hbd118 g hg; omega) (fun g hg => by omega)
          have hb363 := Grew.box hgr430 hb363 (fun g hg => by have := hbd118 g hg; omega)
          have hp437 : ∀ g q, v106.ownBlock = some g → v413.ownBlock = some q → g ≠ q := (fun g q hg hq => by have := hbd118 g hg; have := hbd425 q hq; omega)
          have hp438 : ∀ g q, v427.ownBlock = some g → v413.ownBlock = some q → g ≠ q := fun g q hg hq => Grew.sepP (p := fun g => ∀ q, v413.ownBlock = some q → g ≠ q) hgr430 (fun g hg q hq => (hp437) g q hg hq) (fun g hg q hq => by have := hbd425 q hq; omega) g hg q hq
          have hs420 := Grew.ownF hgr430 hs420 hp437
          have hz439 := (hgr430).1.size
          have hbd440 : ∀ g, v427.ownBlock = some g → g108 ≤ g ∧ g < w428.heap.size := Grew.bd hgr430 hs429 (fun g hg => ⟨by have := hbd118 g hg; omega, (hbd118 g hg).2⟩) (by omega) (by omega)
          refine ⟨hbs432, ?_⟩
          refine HL.eff 7 rfl rfl (by kernel_rfl) rfl rfl (eff_appendF (c := C_LatchLink) rfl Try.underlying36 in_77 rfl rfl rfl rfl rfl hs420 (by omega) (slRep.old ha4 he433 (Nat.le_refl _)) ha58) ?_
          rintro v441 w442 ⟨hs443, hgr444⟩
          have hbs446 : Ext w102 w442 := Below.trans hbs432 (Grew.low hgr444 (fun g hg => by have := hbd425 g hg; omega) (hbs432).size)
          have he447 : Ext w w442 := Below.trans he433 (Grew.low hgr444 (fun g hg => by have := hbd425 g hg; omega) (he433).size)
          have hp448 : ∀ g, v441.ownBlock = some g → g ≠ b5 := Grew.sepP (p := fun g => g ≠ b5) hgr444 (fun g hg => by have := hbd425 g hg; omega) (fun g hg => by omega)
          have hb8 := Grew.box hgr444 hb8 (fun g hg => by have := hbd425 g hg; omega)
          have hp449 : ∀ g, v441.ownBlock = some g → g ≠ b12 := Grew.sepP (p := fun g => g ≠ b12) hgr444 (fun g hg => by have := hbd425 g hg; omega) (fun g hg => by omega)
          have hb15 := Grew.box hgr444 hb15 (fun g hg => by have := hbd425 g hg; omega)
          have hp450 : ∀ g, v441.ownBlock = some g → g ≠ b360 := Grew.sepP (p := fun g => g ≠ b360) hgr444 (fun g hg => by have := hbd425 g hg; omega) (fun g hg => by omega)
          have hb363 := Grew.box hgr444 hb363 (fun g hg => by have := hbd425 g hg; omega)
          have hp451 : ∀ g q, v413.ownBlock = some g → v427.ownBlock = some q → g ≠ q := (fun g q hg hq e => hp438 q g hq hg e.symm)
          have hp452 : ∀ g q, v441.ownBlock = some g → v427.ownBlock = some q → g ≠ q := fun g q hg hq => Grew.sepP (p := fun g => ∀ q, v427.ownBlock = some q → g ≠ q) hgr444 (fun g hg q hq => (hp451) g q hg hq) (fun g hg q hq => by have := hbd440 q hq; omega) g hg q hq
          have hs429 := Grew.ownF hgr444 hs429 hp451
          have hz453 := (hgr444).1.size
          have hbd454 : ∀ g, v441.ownBlock = some g → g415 ≤ g ∧ g < w442.heap.size := Grew.bd hgr444 hs443 (fun g hg => ⟨by have := hbd425 g hg; omega, (hbd425 g hg).2⟩) (by omega) (by omega)
          refine ⟨hbs446, ?_⟩
          refine HL.yld 8 (by kernel_rfl) rfl (by kernel_rfl) rfl rfl (yld_build (uss := [(0, [v427]), (1, [v441])]) (out := [v427, v441]) rfl rfl zn_38 pl_38 (pt_cons (slRep.cl (ownR.slf hs429 (Nat.le_refl _) (Nat.le_refl _))) (pt_cons (slRep.cl (ownR.slf hs443 (Nat.le_refl _) (Nat.le_refl _))) rfl)) rfl) ?_
          refine HL.tail rfl (by kernel_rfl) rfl ?_
          refine TL.eff rfl rfl (eff_store rfl rfl rfl hb363 cn_38 (allc_cons (slRep.one (ownR.slf hs429 (Nat.le_refl _) (Nat.le_refl _))) (allc_cons (slRep.one (ownR.slf hs443 (Nat.le_refl _) (Nat.le_refl _))) allc_nil)) rfl) ?_
          rintro _ w455 ⟨hu456, hb457⟩
          have he458 : Ext w w455 := Below.trans he447 (Upd.below hu456 (by omega))
          have hb8 := Box.upd hb8 hu456 (by omega)
          have hb15 := Box.upd hb15 hu456 (by omega)
          have hs429 := ownR.upd hs429 hu456 hp436
          have hs443 := ownR.upd hs443 hu456 hp450
          have hz459 := (hu456).size
          have hb363 : Box w455 b360 [v427, v441] 38 := hb457
          refine TL.noPan (l := []) ?_
          exact fun a hK => ⟨rfl, b360, v427, v441, hK.weaken ⟨rfl, rfl, rfl, trivial⟩, he458, (by omega), hb15, hb363, ⟨by omega, Box.lt hb363⟩, (ownR.base hs429 (by omega)), (fun g hg => by have := hbd440 g hg; omega), (ownR.base hs443 (by omega)), (fun g hg => by have := hbd454 g hg; omega), (by omega), hp435, hp436, hp449, hp450, hp452⟩
    ·
      refine HB.eff 4 rfl rfl (by kernel_rfl) rfl rfl (eff_buildSlice (c := C_LatchLink) (xs := ([] : List S_LatchLink)) (S := (Iv 0 0)) (uss := []) (out := []) rfl Try.underlying36 in_77 rfl rfl (fillL_all [] rfl rfl rfl) rfl rfl rfl rfl (one_rep (uss := []) (show reps _ _ _ _ _ from trivial) rfl) (fun k h => by have := h.2; omega) rfl) ?_
      rintro v460 w461 ⟨g462, hv463, hg464, hz465, hx466, hs467⟩
      have hbs468 : Ext w102 w461 := Ext.trans (Ext.refl w102) hx466
      have he469 : Ext w w461 := Ext.trans he104 hx466
      have hb8 := Box.ext hb8 hx466
      have hb15 := Box.ext hb15 hx466
      have hz470 := (hx466).size
      have hlo471 : w.heap.size ≤ g462 := by rw [hg464]; exact (he104).size
      have hbd472 := bd_of hv463
      clear hv463
      refine ⟨hbs468, ?_⟩
      refine HL.many (js := [0, 9]) (by kernel_rfl) rfl (all_two ?_ ?_)
      ·
        refine HB.eff 0 rfl rfl (by kernel_rfl) rfl rfl (eff_buildSlice (c := C_Latch) (xs := ([] : List S_Latch)) (S := (Iv 0 0)) (uss := []) (out := []) rfl Try.underlying35 in_50 rfl rfl (fillL_all [] rfl rfl rfl) rfl rfl rfl rfl (one_rep (uss := []) (show reps _ _ _ _ _ from trivial) rfl) (fun k h => by have := h.2; omega) rfl) ?_
        rintro v474 w475 ⟨g476, hv477, hg478, hz479, hx480, hs481⟩
        have hbs482 : Ext w102 w475 := Ext.trans hbs468 hx480
        have he483 : Ext w w475 := Ext.trans he469 hx480
        have hb8 := Box.ext hb8 hx480
        have hb15 := Box.ext hb15 hx480
        have hs467 := ownR.ext hs467 hx480
        have hz484 := (hx480).size
        have hlo485 : w.heap.size ≤ g476 := by rw [hg478]; exact (he469).size
        have hbd486 := bd_of hv477
        clear hv477
        refine ⟨hbs482, ?_⟩
        refine HL.many (js := [3, 9]) (by kernel_rfl) rfl (all_two ?_ ?_)
        ·
          refine HB.eff 3 rfl rfl (by kernel_rfl) rfl rfl (eff_appendF (c := C_Latch) rfl Try.underlying35 in_50 rfl rfl rfl rfl rfl hs481 (by omega) (slRep.old ha2 he483 (Nat.le_refl _)) ha33) ?_
          rintro v488 w489 ⟨hs490, hgr491⟩
          have hbs493 : Ext w102 w489 := Below.trans hbs482 (Grew.low hgr491 (fun g hg => by have := hbd486 g hg; omega) (hbs482).size)
          have he494 : Ext w w489 := Below.trans he483 (Grew.low hgr491 (fun g hg => by have := hbd486 g hg; omega) (he483).size)
          have hp495 : ∀ g, v488.ownBlock = some g → g ≠ b5 := Grew.sepP (p := fun g => g ≠ b5) hgr491 (fun g hg => by have := hbd486 g hg; omega) (fun g hg => by omega)
          have hb8 := Grew.box hgr491 hb8 (fun g hg => by have := hbd486 g hg; omega)
          have hp496 : ∀ g, v488.ownBlock = some g → g ≠ b12 := Grew.sepP (p := fun g => g ≠ b12) hgr491 (fun g hg => by have := hbd486 g hg; omega) (fun g hg => by omega)
          have hb15 := Grew.box hgr491 hb15 (fun g hg => by have := hbd486 g hg; omega)
          have hp497 : ∀ g q, v474.ownBlock = some g → v460.ownBlock = some q → g ≠ q := (fun g q hg hq => by have := hbd486 g hg; have := hbd472 q hq; omega)
          have hp498 : ∀ g q, v488.ownBlock = some g → v460.ownBlock = some q → g ≠ q := fun g q hg hq => Grew.sepP (p := fun g => ∀ q, v460.ownBlock = some q → g ≠ q) hgr491 (fun g hg q hq => (hp497) g q hg hq) (fun g hg q hq => by have := hbd472 q hq; omega) g hg q hq
          have hs467 := Grew.ownF hgr491 hs467 hp497
          have hz499 := (hgr491).1.size
          have hbd500 : ∀ g, v488.ownBlock = some g → g476 ≤ g ∧ g < w489.heap.size := Grew.bd hgr491 hs490 (fun g hg => ⟨by have := hbd486 g hg; omega, (hbd486 g hg).2⟩) (by omega) (by omega)
          refine ⟨hbs493, ?_⟩
          refine HL.many (js := [7, 9]) (by kernel_rfl) rfl (all_two ?_ ?_)
          ·
            refine HB.eff 7 rfl rfl (by kernel_rfl) rfl rfl (eff_appendF (c := C_LatchLink) rfl Try.underlying36 in_77 rfl rfl rfl rfl rfl hs467 (by omega) (slRep.old ha4 he494 (Nat.le_refl _)) ha58) ?_
            rintro v501 w502 ⟨hs503, hgr504⟩
            have hbs506 : Ext w102 w502 := Below.trans hbs493 (Grew.low hgr504 (fun g hg => by have := hbd472 g hg; omega) (hbs493).size)
            have he507 : Ext w w502 := Below.trans he494 (Grew.low hgr504 (fun g hg => by have := hbd472 g hg; omega) (he494).size)
            have hp508 : ∀ g, v501.ownBlock = some g → g ≠ b5 := Grew.sepP (p := fun g => g ≠ b5) hgr504 (fun g hg => by have := hbd472 g hg; omega) (fun g hg => by omega)
            have hb8 := Grew.box hgr504 hb8 (fun g hg => by have := hbd472 g hg; omega)
            have hp509 : ∀ g, v501.ownBlock = some g → g ≠ b12 := Grew.sepP (p := fun g => g ≠ b12) hgr504 (fun g hg => by have := hbd472 g hg; omega) (fun g hg => by omega)
            have hb15 := Grew.box hgr504 hb15 (fun g hg => by have := hbd472 g hg; omega)
            have hp510 : ∀ g q, v460.ownBlock = some g → v488.ownBlock = some q → g ≠ q := (fun g q hg hq e => hp498 q g hq hg e.symm)
            have hp511 : ∀ g q, v501.ownBlock = some g → v488.ownBlock = some q → g ≠ q := fun g q hg hq => Grew.sepP (p := fun g => ∀ q, v488.ownBlock = some q → g ≠ q) hgr504 (fun g hg q hq => (hp510) g q hg hq) (fun g hg q hq => by have := hbd500 q hq; omega) g hg q hq
            have hs490 := Grew.ownF hgr504 hs490 hp510
            have hz512 := (hgr504).1.size
            have hbd513 : ∀ g, v501.ownBlock = some g → g462 ≤ g ∧ g < w502.heap.size := Grew.bd hgr504 hs503 (fun g hg => ⟨by have := hbd472 g hg; omega, (hbd472 g hg).2⟩) (by omega) (by omega)
            refine ⟨hbs506, ?_⟩
            refine HL.yld 8 (by kernel_rfl) rfl (by kernel_rfl) rfl rfl (yld_build (uss := [(0, [v488]), (1, [v501])]) (out := [v488, v501]) rfl rfl zn_38 pl_38 (pt_cons (slRep.cl (ownR.slf hs490 (Nat.le_refl _) (Nat.le_refl _))) (pt_cons (slRep.cl (ownR.slf hs503 (Nat.le_refl _) (Nat.le_refl _))) rfl)) rfl) ?_
            refine HL.eff 9 rfl rfl (by kernel_rfl) rfl rfl (eff_alloc rfl zn_38) ?_
            rintro _ w515 ⟨b514, rfl, hn516⟩
            obtain ⟨hn516e, hn516s, hn516x, hb517⟩ := hn516
            have hb517 : Box w515 b514 [.slice none 0 0, .slice none 0 0] 38 := hb517
            have hbs519 : Ext w102 w515 := Ext.trans hbs506 hn516x
            have he520 : Ext w w515 := Ext.trans he507 hn516x
            have hb8 := Box.ext hb8 hn516x
            have hb15 := Box.ext hb15 hn516x
            have hs490 := ownR.ext hs490 hn516x
            have hs503 := ownR.ext hs503 hn516x
            have hz521 := (hn516x).size
            have hlo518 : w.heap.size ≤ b514 := by rw [hn516e]; exact (he507).size
            refine ⟨hbs519, ?_⟩
            refine HL.tail rfl (by kernel_rfl) rfl ?_
            refine TL.eff rfl rfl (eff_store rfl rfl rfl hb517 cn_38 (allc_cons (slRep.one (ownR.slf hs490 (Nat.le_refl _) (Nat.le_refl _))) (allc_cons (slRep.one (ownR.slf hs503 (Nat.le_refl _) (Nat.le_refl _))) allc_nil)) rfl) ?_
            rintro _ w522 ⟨hu523, hb524⟩
            have he525 : Ext w w522 := Below.trans he520 (Upd.below hu523 (by omega))
            have hb8 := Box.upd hb8 hu523 (by omega)
            have hb15 := Box.upd hb15 hu523 (by omega)
            have hs490 := ownR.upd hs490 hu523 (fun g hg => by have := hbd500 g hg; omega)
            have hs503 := ownR.upd hs503 hu523 (fun g hg => by have := hbd513 g hg; omega)
            have hz526 := (hu523).size
            have hb517 : Box w522 b514 [v488, v501] 38 := hb524
            refine TL.noPan (l := []) ?_
            exact fun a hK => ⟨rfl, b514, v488, v501, hK.weaken ⟨rfl, rfl, rfl, trivial⟩, he525, (by omega), hb15, hb517, ⟨by omega, Box.lt hb517⟩, (ownR.base hs490 (by omega)), (fun g hg => by have := hbd500 g hg; omega), (ownR.base hs503 (by omega)), (fun g hg => by have := hbd513 g hg; omega), (by omega), hp496, (fun g hg => by have := hbd500 g hg; omega), hp509, (fun g hg => by have := hbd513 g hg; omega), hp511⟩
          ·
            refine HB.eff 9 rfl rfl (by kernel_rfl) rfl rfl (eff_alloc rfl zn_38) ?_
            rintro _ w528 ⟨b527, rfl, hn529⟩
            obtain ⟨hn529e, hn529s, hn529x, hb530⟩ := hn529
            have hb530 : Box w528 b527 [.slice none 0 0, .slice none 0 0] 38 := hb530
            have hbs532 : Ext w102 w528 := Ext.trans hbs493 hn529x
            have he533 : Ext w w528 := Ext.trans he494 hn529x
            have hb8 := Box.ext hb8 hn529x
            have hb15 := Box.ext hb15 hn529x
            have hs467 := ownR.ext hs467 hn529x
            have hs490 := ownR.ext hs490 hn529x
            have hz534 := (hn529x).size
            have hlo531 : w.heap.size ≤ b527 := by rw [hn529e]; exact (he494).size
            refine ⟨hbs532, ?_⟩
            refine HL.eff 7 rfl rfl (by kernel_rfl) rfl rfl (eff_appendF (c := C_LatchLink) rfl Try.underlying36 in_77 rfl rfl rfl rfl rfl hs467 (by omega) (slRep.old ha4 he533 (Nat.le_refl _)) ha58) ?_
            rintro v535 w536 ⟨hs537, hgr538⟩
            have hbs540 : Ext w102 w536 := Below.trans hbs532 (Grew.low hgr538 (fun g hg => by have := hbd472 g hg; omega) (hbs532).size)
            have he541 : Ext w w536 := Below.trans he533 (Grew.low hgr538 (fun g hg => by have := hbd472 g hg; omega) (he533).size)
            have hp542 : ∀ g, v535.ownBlock = some g → g ≠ b5 := Grew.sepP (p := fun g => g ≠ b5) hgr538 (fun g hg => by have := hbd472 g hg; omega) (fun g hg => by omega)
            have hb8 := Grew.box hgr538 hb8 (fun g hg => by have := hbd472 g hg; omega)
            have hp543 : ∀ g, v535.ownBlock = some g → g ≠ b12 := Grew.sepP (p := fun g => g ≠ b12) hgr538 (fun g hg => by have := hbd472 g hg; omega) (fun g hg => by omega)
            have hb15 := Grew.box hgr538 hb15 (fun g hg => by have := hbd472 g hg; omega)
            have hp544 : ∀ g, v535.ownBlock = some g → g ≠ b527 := Grew.sepP (p := fun g => g ≠ b527) hgr538 (fun g hg => by have := hbd472 g hg; omega) (fun g hg => by omega)
            have hb530 := Grew.box hgr538 hb530 (fun g hg => by have := hbd472 g hg; omega)
            have hp545 : ∀ g q, v460.ownBlock = some g → v488.ownBlock = some q → g ≠ q := (fun g q hg hq e => hp498 q g hq hg e.symm)
            have hp546 : ∀ g q, v535.ownBlock = some g → v488.ownBlock = some q → g ≠ q := fun g q hg hq => Grew.sepP (p := fun g => ∀ q, v488.ownBlock = some q → g ≠ q) hgr538 (fun g hg q hq => (hp545) g q hg hq) (fun g hg q hq => by have := hbd500 q hq; omega) g hg q hq
            have hs490 := Grew.ownF hgr538 hs490 hp545
            have hz547 := (hgr538).1.size
            have hbd548 : ∀ g, v535.ownBlock = some g → g462 ≤ g ∧ g < w536.heap.size := Grew.bd hgr538 hs537 (fun g hg => ⟨by have := hbd472 g hg; omega, (hbd472 g hg).2⟩) (by omega) (by omega)
            refine ⟨hbs540, ?_⟩
            refine HL.yld 8 (by kernel_rfl) rfl (by kernel_rfl) rfl rfl (yld_build (uss := [(0, [v488]), (1, [v535])]) (out := [v488, v535]) rfl rfl zn_38 pl_38 (pt_cons (slRep.cl (ownR.slf hs490 (Nat.le_refl _) (Nat.le_refl _))) (pt_cons (slRep.cl (ownR.slf hs537 (Nat.le_refl _) (Nat.le_refl _))) rfl)) rfl) ?_
            refine HL.tail rfl (by kernel_rfl) rfl ?_
            refine TL.eff rfl rfl (eff_store rfl rfl rfl hb530 cn_38 (allc_cons (slRep.one (ownR.slf hs490 (Nat.le_refl _) (Nat.le_refl _))) (allc_cons (slRep.one (ownR.slf hs537 (Nat.le_refl _) (Nat.le_refl _))) allc_nil)) rfl) ?_
            rintro _ w549 ⟨hu550, hb551⟩
            have he552 : Ext w w549 := Below.trans he541 (Upd.below hu550 (by omega))
            have hb8 := Box.upd hb8 hu550 (by omega)
            have hb15 := Box.upd hb15 hu550 (by omega)
            have hs490 := ownR.upd hs490 hu550 (fun g hg => by have := hbd500 g hg; omega)
            have hs537 := ownR.upd hs537 hu550 hp544
            have hz553 := (hu550).size
            have hb530 : Box w549 b527 [v488, v535] 38 := hb551
            refine TL.noPan (l := []) ?_
            exact fun a hK => ⟨rfl, b527, v488, v535, hK.weaken ⟨rfl, rfl, rfl, trivial⟩, he552, (by omega), hb15, hb530, ⟨by omega, Box.lt hb530⟩, (ownR.base hs490 (by omega)), (fun g hg => by have := hbd500 g hg; omega), (ownR.base hs537 (by omega)), (fun g hg => by have := hbd548 g hg; omega), (by omega), hp496, (fun g hg => by have := hbd500 g hg; omega), hp543, hp544, hp546⟩
        ·
          refine HB.eff 9 rfl rfl (by kernel_rfl) rfl rfl (eff_alloc rfl zn_38) ?_
          rintro _ w555 ⟨b554, rfl, hn556⟩
          obtain ⟨hn556e, hn556s, hn556x, hb557⟩ := hn556
          have hb557 : Box w555 b554 [.slice none 0 0, .slice none 0 0] 38 := hb557
          have hbs559 : Ext w102 w555 := Ext.trans hbs482 hn556x
          have he560 : Ext w w555 := Ext.trans he483 hn556x
          have hb8 := Box.ext hb8 hn556x
          have hb15 := Box.ext hb15 hn556x
          have hs467 := ownR.ext hs467 hn556x
          have hs481 := ownR.ext hs481 hn556x
          have hz561 := (hn556x).size
          have hlo558 : w.heap.size ≤ b554 := by rw [hn556e]; exact (he483).size
          refine ⟨hbs559, ?_⟩
          refine HL.eff 3 rfl rfl (by kernel_rfl) rfl rfl (eff_appendF (c := C_Latch) rfl Try.underlying35 in_50 rfl rfl rfl rfl rfl hs481 (by omega) (slRep.old ha2 he560 (Nat.le_refl _)) ha33) ?_
          rintro v562 w563 ⟨hs564, hgr565⟩
          have hbs567 : Ext w102 w563 := Below.trans hbs559 (Grew.low hgr565 (fun g hg => by have := hbd486 g hg; omega) (hbs559).size)
          have he568 : Ext w w563 := Below.trans he560 (Grew.low hgr565 (fun g hg => by have := hbd486 g hg; omega) (he560).size)
          have hp569 : ∀ g, v562.ownBlock = some g → g ≠ b5 := Grew.sepP (p := fun g => g ≠ b5) hgr565 (fun g hg => by have := hbd486 g hg; omega) (fun g hg => by omega)
          have hb8 := Grew.box hgr565 hb8 (fun g hg => by have := hbd486 g hg; omega)
          have hp570 : ∀ g, v562.ownBlock = some g → g ≠ b12 := Grew.sepP (p := fun g => g ≠ b12) hgr565 (fun g hg => by have := hbd486 g hg; omega) (fun g hg => by omega)
          have hb15 := Grew.box hgr565 hb15 (fun g hg => by have := hbd486 g hg; omega)
          have hp571 : ∀ g, v562.ownBlock = some g → g ≠ b554 := Grew.sepP (p := fun g => g ≠ b554) hgr565 (fun g hg => by have := hbd486 g hg; omega) (fun g hg => by omega)
          have hb557 := Grew.box hgr565 hb557 (fun g hg => by have := hbd486 g hg; omega)
          have hp572 : ∀ g q, v474.ownBlock = some g → v460.ownBlock = some q → g ≠ q := (fun g q hg hq => by have := hbd486 g hg; have := hbd472 q hq; omega)
          have hp573 : ∀ g q, v562.ownBlock = some g → v460.ownBlock = some q → g ≠ q := fun g q hg hq => Grew.sepP (p := fun g => ∀ q, v460.ownBlock = some q → g ≠ q) hgr565 (fun g hg q hq => (hp572) g q hg hq) (fun g hg q hq => by have := hbd472 q hq; omega) g hg q hq
          have hs467 := Grew.ownF hgr565 hs467 hp572
          have hz574 := (hgr565).1.size
          have hbd575 : ∀ g, v562.ownBlock = some g → g476 ≤ g ∧ g < w563.heap.size := Grew.bd hgr565 hs564 (fun g hg => ⟨by have := hbd486 g hg; omega, (hbd486 g hg).2⟩) (by omega) (by omega)
          refine ⟨hbs567, ?_⟩
          refine HL.eff 7 rfl rfl (by kernel_rfl) rfl rfl (eff_appendF (c := C_LatchLink) rfl Try.underlying36 in_77 rfl rfl rfl rfl rfl hs467 (by omega) (slRep.old ha4 he568 (Nat.le_refl _)) ha58) ?_
          rintro v576 w577 ⟨hs578, hgr579⟩
          have hbs581 : Ext w102 w577 := Below.trans hbs567 (Grew.low hgr579 (fun g hg => by have := hbd472 g hg; omega) (hbs567).size)
          have he582 : Ext w w577 := Below.trans he568 (Grew.low hgr579 (fun g hg => by have := hbd472 g hg; omega) (he568).size)
          have hp583 : ∀ g, v576.ownBlock = some g → g ≠ b5 := Grew.sepP (p := fun g => g ≠ b5) hgr579 (fun g hg => by have := hbd472 g hg; omega) (fun g hg => by omega)
          have hb8 := Grew.box hgr579 hb8 (fun g hg => by have := hbd472 g hg; omega)
          have hp584 : ∀ g, v576.ownBlock = some g → g ≠ b12 := Grew.sepP (p := fun g => g ≠ b12) hgr579 (fun g hg => by have := hbd472 g hg; omega) (fun g hg => by omega)
          have hb15 := Grew.box hgr579 hb15 (fun g hg => by have := hbd472 g hg; omega)
          have hp585 : ∀ g, v576.ownBlock = some g → g ≠ b554 := Grew.sepP (p := fun g => g ≠ b554) hgr579 (fun g hg => by have := hbd472 g hg; omega) (fun g hg => by omega)
          have hb557 := Grew.box hgr579 hb557 (fun g hg => by have := hbd472 g hg; omega)
          have hp586 : ∀ g q, v460.ownBlock = some g → v562.ownBlock = some q → g ≠ q := (fun g q hg hq e => hp573 q g hq hg e.symm)
          have hp587 : ∀ g q, v576.ownBlock = some g → v562.ownBlock = some q → g ≠ q := fun g q hg hq => Grew.sepP (p := fun g => ∀ q, v562.ownBlock = some q → g ≠ q) hgr579 (fun g hg q hq => (hp586) g q hg hq) (fun g hg q hq => by have := hbd575 q hq; omega) g hg q hq
          have hs564 := Grew.ownF hgr579 hs564 hp586
          have hz588 := (hgr579).1.size
          have hbd589 : ∀ g, v576.ownBlock = some g → g462 ≤ g ∧ g < w577.heap.size := Grew.bd hgr579 hs578 (fun g hg => ⟨by have := hbd472 g hg; omega, (hbd472 g hg).2⟩) (by omega) (by omega)
          refine ⟨hbs581, ?_⟩
          refine HL.yld 8 (by kernel_rfl) rfl (by kernel_rfl) rfl rfl (yld_build (uss := [(0, [v562]), (1, [v576])]) (out := [v562, v576]) rfl rfl zn_38 pl_38 (pt_cons (slRep.cl (ownR.slf hs564 (Nat.le_refl _) (Nat.le_refl _))) (pt_cons (slRep.cl (ownR.slf hs578 (Nat.le_refl _) (Nat.le_refl _))) rfl)) rfl) ?_
          refine HL.tail rfl (by kernel_rfl) rfl ?_
          refine TL.eff rfl rfl (eff_store rfl rfl rfl hb557 cn_38 (allc_cons (slRep.one (ownR.slf hs564 (Nat.le_refl _) (Nat.le_refl _))) (allc_cons (slRep.one (ownR.slf hs578 (Nat.le_refl _) (Nat.le_refl _))) allc_nil)) rfl) ?_
          rintro _ w590 ⟨hu591, hb592⟩
          have he593 : Ext w w590 := Below.trans he582 (Upd.below hu591 (by omega))
          have hb8 := Box.upd hb8 hu591 (by omega)
          have hb15 := Box.upd hb15 hu591 (by omega)
          have hs564 := ownR.upd hs564 hu591 hp571
          have hs578 := ownR.upd hs578 hu591 hp585
          have hz594 := (hu591).size
          have hb557 : Box w590 b554 [v562, v576] 38 := hb592
          refine TL.noPan (l := []) ?_
          exact fun a hK => ⟨rfl, b554, v562, v576, hK.weaken ⟨rfl, rfl, rfl, trivial⟩, he593, (by omega), hb15, hb557, ⟨by omega, Box.lt hb557⟩, (ownR.base hs564 (by omega)), (fun g hg => by have := hbd575 g hg; omega), (ownR.base hs578 (by omega)), (fun g hg => by have := hbd589 g hg; omega), (by omega), hp570, hp571, hp584, hp585, hp587⟩
      ·
        refine HB.eff 9 rfl rfl (by kernel_rfl) rfl rfl (eff_alloc rfl zn_38) ?_
        rintro _ w596 ⟨b595, rfl, hn597⟩
        obtain ⟨hn597e, hn597s, hn597x, hb598⟩ := hn597
        have hb598 : Box w596 b595 [.slice none 0 0, .slice none 0 0] 38 := hb598
        have hbs600 : Ext w102 w596 := Ext.trans hbs468 hn597x
        have he601 : Ext w w596 := Ext.trans he469 hn597x
        have hb8 := Box.ext hb8 hn597x
        have hb15 := Box.ext hb15 hn597x
        have hs467 := ownR.ext hs467 hn597x
        have hz602 := (hn597x).size
        have hlo599 : w.heap.size ≤ b595 := by rw [hn597e]; exact (he469).size
        refine ⟨hbs600, ?_⟩
        refine HL.eff 0 rfl rfl (by kernel_rfl) rfl rfl (eff_buildSlice (c := C_Latch) (xs := ([] : List S_Latch)) (S := (Iv 0 0)) (uss := []) (out := []) rfl Try.underlying35 in_50 rfl rfl (fillL_all [] rfl rfl rfl) rfl rfl rfl rfl (one_rep (uss := []) (show reps _ _ _ _ _ from trivial) rfl) (fun k h => by have := h.2; omega) rfl) ?_
        rintro v603 w604 ⟨g605, hv606, hg607, hz608, hx609, hs610⟩
        have hbs611 : Ext w102 w604 := Ext.trans hbs600 hx609
        have he612 : Ext w w604 := Ext.trans he601 hx609
        have hb8 := Box.ext hb8 hx609
        have hb15 := Box.ext hb15 hx609
        have hb598 := Box.ext hb598 hx609
        have hs467 := ownR.ext hs467 hx609
        have hz613 := (hx609).size
        have hlo614 : w.heap.size ≤ g605 := by rw [hg607]; exact (he601).size
        have hbd615 := bd_of hv606
        clear hv606
        refine ⟨hbs611, ?_⟩
        refine HL.eff 3 rfl rfl (by kernel_rfl) rfl rfl (eff_appendF (c := C_Latch) rfl Try.underlying35 in_50 rfl rfl rfl rfl rfl hs610 (by omega) (slRep.old ha2 he612 (Nat.le_refl _)) ha33) ?_
        rintro v617 w618 ⟨hs619, hgr620⟩
        have hbs622 : Ext w102 w618 := Below.trans hbs611 (Grew.low hgr620 (fun g hg => by have := hbd615 g hg; omega) (hbs611).size)
        have he623 : Ext w w618 := Below.trans he612 (Grew.low hgr620 (fun g hg => by have := hbd615 g hg; omega) (he612).size)
        have hp624 : ∀ g, v617.ownBlock = some g → g ≠ b5 := Grew.sepP (p := fun g => g ≠ b5) hgr620 (fun g hg => by have := hbd615 g hg; omega) (fun g hg => by omega)
        have hb8 := Grew.box hgr620 hb8 (fun g hg => by have := hbd615 g hg; omega)
        have hp625 : ∀ g, v617.ownBlock = some g → g ≠ b12 := Grew.sepP (p := fun g => g ≠ b12) hgr620 (fun g hg => by have := hbd615 g hg; omega) (fun g hg => by omega)
        have hb15 := Grew.box hgr620 hb15 (fun g hg => by have := hbd615 g hg; omega)
        have hp626 : ∀ g, v617.ownBlock = some g → g ≠ b595 := Grew.sepP (p := fun g => g ≠ b595) hgr620 (fun g hg => by have := hbd615 g hg; omega) (fun g hg => by omega)
        have hb598 := Grew.box hgr620 hb598 (fun g hg => by have := hbd615 g hg; omega)
        have hp627 : ∀ g q, v603.ownBlock = some g → v460.ownBlock = some q → g ≠ q := (fun g q hg hq => by have := hbd615 g hg; have := hbd472 q hq; omega)
        have hp628 : ∀ g q, v617.ownBlock = some g → v460.ownBlock = some q → g ≠ q := fun g q hg hq => Grew.sepP (p := fun g => ∀ q, v460.ownBlock = some q → g ≠ q) hgr620 (fun g hg q hq => (hp627) g q hg hq) (fun g hg q hq => by have := hbd472 q hq; omega) g hg q hq
        have hs467 := Grew.ownF hgr620 hs467 hp627
        have hz629 := (hgr620).1.size
        have hbd630 : ∀ g, v617.ownBlock = some g → g605 ≤ g ∧ g < w618.heap.size := Grew.bd hgr620 hs619 (fun g hg => ⟨by have := hbd615 g hg; omega, (hbd615 g hg).2⟩) (by omega) (by omega)
        refine ⟨hbs622, ?_⟩
        refine HL.eff 7 rfl rfl (by kernel_rfl) rfl rfl (eff_appendF (c := C_LatchLink) rfl Try.underlying36 in_77 rfl rfl rfl rfl rfl hs467 (by omega) (slRep.old ha4 he623 (Nat.le_refl _)) ha58) ?_
        rintro v631 w632 ⟨hs633, hgr634⟩
        have hbs636 : Ext w102 w632 := Below.trans hbs622 (Grew.low hgr634 (fun g hg => by have := hbd472 g hg; omega) (hbs622).size)
        have he637 : Ext w w632 := Below.trans he623 (Grew.low hgr634 (fun g hg => by have := hbd472 g hg; omega) (he623).size)
        have hp638 : ∀ g, v631.ownBlock = some g → g ≠ b5 := Grew.sepP (p := fun g => g ≠ b5) hgr634 (fun g hg => by have := hbd472 g hg; omega) (fun g hg => by omega)
        have hb8 := Grew.box hgr634 hb8 (fun g hg => by have := hbd472 g hg; omega)
        have hp639 : ∀ g, v631.ownBlock = some g → g ≠ b12 := Grew.sepP (p := fun g => g ≠ b12) hgr634 (fun g hg => by have := hbd472 g hg; omega) (fun g hg => by omega)
        have hb15 := Grew.box hgr634 hb15 (fun g hg => by have := hbd472 g hg; omega)
        have hp640 : ∀ g, v631.ownBlock = some g → g ≠ b595 := Grew.sepP (p := fun g => g ≠ b595) hgr634 (fun g hg => by have := hbd472 g hg; omega) (fun g hg => by omega)
        have hb598 := Grew.box hgr634 hb598 (fun g hg => by have := hbd472 g hg; omega)
        have hp641 : ∀ g q, v460.ownBlock = some g → v617.ownBlock = some q → g ≠ q := (fun g q hg hq e => hp628 q g hq hg e.symm)
        have hp642 : ∀ g q, v631.ownBlock = some g → v617.ownBlock = some q → g ≠ q := fun g q hg hq => Grew.sepP (p := fun g => ∀ q, v617.ownBlock = some q → g ≠ q) hgr634 (fun g hg q hq => (hp641) g q hg hq) (fun g hg q hq => by have := hbd630 q hq; omega) g hg q hq
        have hs619 := Grew.ownF hgr634 hs619 hp641
        have hz643 := (hgr634).1.size
        have hbd644 : ∀ g, v631.ownBlock = some g → g462 ≤ g ∧ g < w632.heap.size := Grew.bd hgr634 hs633 (fun g hg => ⟨by have := hbd472 g hg; omega, (hbd472 g hg).2⟩) (by omega) (by omega)
        refine ⟨hbs636, ?_⟩
        refine HL.yld 8 (by kernel_rfl) rfl (by kernel_rfl) rfl rfl (yld_build (uss := [(0, [v617]), (1, [v631])]) (out := [v617, v631]) rfl rfl zn_38 pl_38 (pt_cons (slRep.cl (ownR.slf hs619 (Nat.le_refl _) (Nat.le_refl _))) (pt_cons (slRep.cl (ownR.slf hs633 (Nat.le_refl _) (Nat.le_refl _))) rfl)) rfl) ?_
        refine HL.tail rfl (by kernel_rfl) rfl ?_
        refine TL.eff rfl rfl (eff_store rfl rfl rfl hb598 cn_38 (allc_cons (slRep.one (ownR.slf hs619 (Nat.le_refl _) (Nat.le_refl _))) (allc_cons (slRep.one (ownR.slf hs633 (Nat.le_refl _) (Nat.le_refl _))) allc_nil)) rfl) ?_
        rintro _ w645 ⟨hu646, hb647⟩
        have he648 : Ext w w645 := Below.trans he637 (Upd.below hu646 (by omega))
        have hb8 := Box.upd hb8 hu646 (by omega)
        have hb15 := Box.upd hb15 hu646 (by omega)
        have hs619 := ownR.upd hs619 hu646 hp626
        have hs633 := ownR.upd hs633 hu646 hp640
        have hz649 := (hu646).size
        have hb598 : Box w645 b595 [v617, v631] 38 := hb647
        refine TL.noPan (l := []) ?_
        exact fun a hK => ⟨rfl, b595, v617, v631, hK.weaken ⟨rfl, rfl, rfl, trivial⟩, he648, (by omega), hb15, hb598, ⟨by omega, Box.lt hb598⟩, (ownR.base hs619 (by omega)), (fun g hg => by have := hbd630 g hg; omega), (ownR.base hs633 (by omega)), (fun g hg => by have := hbd644 g hg; omega), (by omega), hp625, hp626, hp639, hp640, hp642⟩
    ·
      refine HB.eff 9 rfl rfl (by kernel_rfl) rfl rfl (eff_alloc rfl zn_38) ?_
      rintro _ w651 ⟨b650, rfl, hn652⟩
      obtain ⟨hn652e, hn652s, hn652x, hb653⟩ := hn652
      have hb653 : Box w651 b650 [.slice none 0 0, .slice none 0 0] 38 := hb653
      have hbs655 : Ext w102 w651 := Ext.trans (Ext.refl w102) hn652x
      have he656 : Ext w w651 := Ext.trans he104 hn652x
      have hb8 := Box.ext hb8 hn652x
      have hb15 := Box.ext hb15 hn652x
      have hz657 := (hn652x).size
      have hlo654 : w.heap.size ≤ b650 := by rw [hn652e]; exact (he104).size
      refine ⟨hbs655, ?_⟩
      refine HL.many (js := [0, 4]) (by kernel_rfl) rfl (all_two ?_ ?_)
      ·
        refine HB.eff 0 rfl rfl (by kernel_rfl) rfl rfl (eff_buildSlice (c := C_Latch) (xs := ([] : List S_Latch)) (S := (Iv 0 0)) (uss := []) (out := []) rfl Try.underlying35 in_50 rfl rfl (fillL_all [] rfl rfl rfl) rfl rfl rfl rfl (one_rep (uss := []) (show reps _ _ _ _ _ from trivial) rfl) (fun k h => by have := h.2; omega) rfl) ?_
        rintro v658 w659 ⟨g660, hv661, hg662, hz663, hx664, hs665⟩
        have hbs666 : Ext w102 w659 := Ext.trans hbs655 hx664
        have he667 : Ext w w659 := Ext.trans he656 hx664
        have hb8 := Box.ext hb8 hx664
        have hb15 := Box.ext hb15 hx664
        have hb653 := Box.ext hb653 hx664
        have hz668 := (hx664).size
        have hlo669 : w.heap.size ≤ g660 := by rw [hg662]; exact (he656).size
        have hbd670 := bd_of hv661
        clear hv661
        refine ⟨hbs666, ?_⟩
        refine HL.many (js := [3, 4]) (by kernel_rfl) rfl (all_two ?_ ?_)
        ·
          refine HB.eff 3 rfl rfl (by kernel_rfl) rfl rfl (eff_appendF (c := C_Latch) rfl Try.underlying35 in_50 rfl rfl rfl rfl rfl hs665 (by omega) (slRep.old ha2 he667 (Nat.le_refl _)) ha33) ?_
          rintro v672 w673 ⟨hs674, hgr675⟩
          have hbs677 : Ext w102 w673 := Below.trans hbs666 (Grew.low hgr675 (fun g hg => by have := hbd670 g hg; omega) (hbs666).size)
          have he678 : Ext w w673 := Below.trans he667 (Grew.low hgr675 (fun g hg => by have := hbd670 g hg; omega) (he667).size)
          have hp679 : ∀ g, v672.ownBlock = some g → g ≠ b5 := Grew.sepP (p := fun g => g ≠ b5) hgr675 (fun g hg => by have := hbd670 g hg; omega) (fun g hg => by omega)
          have hb8 := Grew.box hgr675 hb8 (fun g hg => by have := hbd670 g hg; omega)
          have hp680 : ∀ g, v672.ownBlock = some g → g ≠ b12 := Grew.sepP (p := fun g => g ≠ b12) hgr675 (fun g hg => by have := hbd670 g hg; omega) (fun g hg => by omega)
          have hb15 := Grew.box hgr675 hb15 (fun g hg => by have := hbd670 g hg; omega)
          have hp681 : ∀ g, v672.ownBlock = some g → g ≠ b650 := Grew.sepP (p := fun g => g ≠ b650) hgr675 (fun g hg => by have := hbd670 g hg; omega) (fun g hg => by omega)
          have hb653 := Grew.box hgr675 hb653 (fun g hg => by have := hbd670 g hg; omega)
          have hz682 := (hgr675).1.size
          have hbd683 : ∀ g, v672.ownBlock = some g → g660 ≤ g ∧ g < w673.heap.size := Grew.bd hgr675 hs674 (fun g hg => ⟨by have := hbd670 g hg; omega, (hbd670 g hg).2⟩) (by omega) (by omega)
          refine ⟨hbs677, ?_⟩
          refine HL.eff 4 rfl rfl (by kernel_rfl) rfl rfl (eff_buildSlice (c := C_LatchLink) (xs := ([] : List S_LatchLink)) (S := (Iv 0 0)) (uss := []) (out := []) rfl Try.underlying36 in_77 rfl rfl (fillL_all [] rfl rfl rfl) rfl rfl rfl rfl (one_rep (uss := []) (show reps _ _ _ _ _ from trivial) rfl) (fun k h => by have := h.2; omega) rfl) ?_
          rintro v684 w685 ⟨g686, hv687, hg688, hz689, hx690, hs691⟩
          have hbs692 : Ext w102 w685 := Ext.trans hbs677 hx690
          have he693 : Ext w w685 := Ext.trans he678 hx690
          have hb8 := Box.ext hb8 hx690
          have hb15 := Box.ext hb15 hx690
          have hb653 := Box.ext hb653 hx690
          have hs674 := ownR.ext hs674 hx690
          have hz694 := (hx690).size
          have hlo695 : w.heap.size ≤ g686 := by rw [hg688]; exact (he678).size
          have hbd696 := bd_of hv687
          clear hv687
          refine ⟨hbs692, ?_⟩
          refine HL.eff 7 rfl rfl (by kernel_rfl) rfl rfl (eff_appendF (c := C_LatchLink) rfl Try.underlying36 in_77 rfl rfl rfl rfl rfl hs691 (by omega) (slRep.old ha4 he693 (Nat.le_refl _)) ha58) ?_
          rintro v698 w699 ⟨hs700, hgr701⟩
          have hbs703 : Ext w102 w699 := Below.trans hbs692 (Grew.low hgr701 (fun g hg => by have := hbd696 g hg; omega) (hbs692).size)
          have he704 : Ext w w699 := Below.trans he693 (Grew.low hgr701 (fun g hg => by have := hbd696 g hg; omega) (he693).size)
          have hp705 : ∀ g, v698.ownBlock = some g → g ≠ b5 := Grew.sepP (p := fun g => g ≠ b5) hgr701 (fun g hg => by have := hbd696 g hg; omega) (fun g hg => by omega)
          have hb8 := Grew.box hgr701 hb8 (fun g hg => by have := hbd696 g hg; omega)
          have hp706 : ∀ g, v698.ownBlock = some g → g ≠ b12 := Grew.sepP (p := fun g => g ≠ b12) hgr701 (fun g hg => by have := hbd696 g hg; omega) (fun g hg => by omega)
          have hb15 := Grew.box hgr701 hb15 (fun g hg => by have := hbd696 g hg; omega)
          have hp707 : ∀ g, v698.ownBlock = some g → g ≠ b650 := Grew.sepP (p := fun g => g ≠ b650) hgr701 (fun g hg => by have := hbd696 g hg; omega) (fun g hg => by omega)
          have hb653 := Grew.box hgr701 hb653 (fun g hg => by have := hbd696 g hg; omega)
          have hp708 : ∀ g q, v684.ownBlock = some g → v672.ownBlock = some q → g ≠ q := (fun g q hg hq => by have := hbd696 g hg; have := hbd683 q hq; omega)
          have hp709 : ∀ g q, v698.ownBlock = some g → v672.ownBlock = some q → g ≠ q := fun g q hg hq => Grew.sepP (p := fun g => ∀ q, v672.ownBlock = some q → g ≠ q) hgr701 (fun g hg q hq => (hp708) g q hg hq) (fun g hg q hq => by have := hbd683 q hq; omega) g hg q hq
          have hs674 := Grew.ownF hgr701 hs674 hp708
          have hz710 := (hgr701).1.size
          have hbd711 : ∀ g, v698.ownBlock = some g → g686 ≤ g ∧ g < w699.heap.size := Grew.bd hgr701 hs700 (fun g hg => ⟨by have := hbd696 g hg; omega, (hbd696 g hg).2⟩) (by omega) (by omega)
          refine ⟨hbs703, ?_⟩
          refine HL.yld 8 (by kernel_rfl) rfl (by kernel_rfl) rfl rfl (yld_build (uss := [(0, [v672]), (1, [v698])]) (out := [v672, v698]) rfl rfl zn_38 pl_38 (pt_cons (slRep.cl (ownR.slf hs674 (Nat.le_refl _) (Nat.le_refl _))) (pt_cons (slRep.cl (ownR.slf hs700 (Nat.le_refl _) (Nat.le_refl _))) rfl)) rfl) ?_
          refine HL.tail rfl (by kernel_rfl) rfl ?_
          refine TL.eff rfl rfl (eff_store rfl rfl rfl hb653 cn_38 (allc_cons (slRep.one (ownR.slf hs674 (Nat.le_refl _) (Nat.le_refl _))) (allc_cons (slRep.one (ownR.slf hs700 (Nat.le_refl _) (Nat.le_refl _))) allc_nil)) rfl) ?_
          rintro _ w712 ⟨hu713, hb714⟩
          have he715 : Ext w w712 := Below.trans he704 (Upd.below hu713 (by omega))
          have hb8 := Box.upd hb8 hu713 (by omega)
          have hb15 := Box.upd hb15 hu713 (by omega)
          have hs674 := ownR.upd hs674 hu713 hp681
          have hs700 := ownR.upd hs700 hu713 hp707
          have hz716 := (hu713).size
          have hb653 : Box w712 b650 [v672, v698] 38 := hb714
          refine TL.noPan (l := []) ?_
          exact fun a hK => ⟨rfl, b650, v672, v698, hK.weaken ⟨rfl, rfl, rfl, trivial⟩, he715, (by omega), hb15, hb653, ⟨by omega, Box.lt hb653⟩, (ownR.base hs674 (by omega)), (fun g hg => by have := hbd683 g hg; omega), (ownR.base hs700 (by omega)), (fun g hg => by have := hbd711 g hg; omega), (by omega), hp680, hp681, hp706, hp707, hp709⟩
        ·
          refine HB.eff 4 rfl rfl (by kernel_rfl) rfl rfl (eff_buildSlice (c := C_LatchLink) (xs := ([] : List S_LatchLink)) (S := (Iv 0 0)) (uss := []) (out := []) rfl Try.underlying36 in_77 rfl rfl (fillL_all [] rfl rfl rfl) rfl rfl rfl rfl (one_rep (uss := []) (show reps _ _ _ _ _ from trivial) rfl) (fun k h => by have := h.2; omega) rfl) ?_
          rintro v717 w718 ⟨g719, hv720, hg721, hz722, hx723, hs724⟩
          have hbs725 : Ext w102 w718 := Ext.trans hbs666 hx723
          have he726 : Ext w w718 := Ext.trans he667 hx723
          have hb8 := Box.ext hb8 hx723
          have hb15 := Box.ext hb15 hx723
          have hb653 := Box.ext hb653 hx723
          have hs665 := ownR.ext hs665 hx723
          have hz727 := (hx723).size
          have hlo728 : w.heap.size ≤ g719 := by rw [hg721]; exact (he667).size
          have hbd729 := bd_of hv720
          clear hv720
          refine ⟨hbs725, ?_⟩
          refine HL.eff 3 rfl rfl (by kernel_rfl) rfl rfl (eff_appendF (c := C_Latch) rfl Try.underlying35 in_50 rfl rfl rfl rfl rfl hs665 (by omega) (slRep.old ha2 he726 (Nat.le_refl _)) ha33) ?_
          rintro v731 w732 ⟨hs733, hgr734⟩
          have hbs736 : Ext w102 w732 := Below.trans hbs725 (Grew.low hgr734 (fun g hg => by have := hbd670 g hg; omega) (hbs725).size)
          have he737 : Ext w w732 := Below.trans he726 (Grew.low hgr734 (fun g hg => by have := hbd670 g hg; omega) (he726).size)
          have hp738 : ∀ g, v731.ownBlock = some g → g ≠ b5 := Grew.sepP (p := fun g => g ≠ b5) hgr734 (fun g hg => by have := hbd670 g hg; omega) (fun g hg => by omega)
          have hb8 := Grew.box hgr734 hb8 (fun g hg => by have := hbd670 g hg; omega)
          have hp739 : ∀ g, v731.ownBlock = some g → g ≠ b12 := Grew.sepP (p := fun g => g ≠ b12) hgr734 (fun g hg => by have := hbd670 g hg; omega) (fun g hg => by omega)
          have hb15 := Grew.box hgr734 hb15 (fun g hg => by have := hbd670 g hg; omega)
          have hp740 : ∀ g, v731.ownBlock = some g → g ≠ b650 := Grew.sepP (p := fun g => g ≠ b650) hgr734 (fun g hg => by have := hbd670 g hg; omega) (fun g hg => by omega)
          have hb653 := Grew.box hgr734 hb653 (fun g hg => by have := hbd670 g hg; omega)
          have hp741 : ∀ g q, v658.ownBlock = some g → v717.ownBlock = some q → g ≠ q := (fun g q hg hq => by have := hbd670 g hg; have := hbd729 q hq; omega)
          have hp742 : ∀ g q, v731.ownBlock = some g → v717.ownBlock = some q → g ≠ q := fun g q hg hq => Grew.sepP (p := fun g => ∀ q, v717.ownBlock = some q → g ≠ q) hgr734 (fun g hg q hq => (hp741) g q hg hq) (fun g hg q hq => by have := hbd729 q hq; omega) g hg q hq
          have hs724 := Grew.ownF hgr734 hs724 hp741
          have hz743 := (hgr734).1.size
          have hbd744 : ∀ g, v731.ownBlock = some g → g660 ≤ g ∧ g < w732.heap.size := Grew.bd hgr734 hs733 (fun g hg => ⟨by have := hbd670 g hg; omega, (hbd670 g hg).2⟩) (by omega) (by omega)
          refine ⟨hbs736, ?_⟩
          refine HL.eff 7 rfl rfl (by kernel_rfl) rfl rfl (eff_appendF (c := C_LatchLink) rfl Try.underlying36 in_77 rfl rfl rfl rfl rfl hs724 (by omega) (slRep.old ha4 he737 (Nat.le_refl _)) ha58) ?_
          rintro v745 w746 ⟨hs747, hgr748⟩
          have hbs750 : Ext w102 w746 := Below.trans hbs736 (Grew.low hgr748 (fun g hg => by have := hbd729 g hg; omega) (hbs736).size)
          have he751 : Ext w w746 := Below.trans he737 (Grew.low hgr748 (fun g hg => by have := hbd729 g hg; omega) (he737).size)
          have hp752 : ∀ g, v745.ownBlock = some g → g ≠ b5 := Grew.sepP (p := fun g => g ≠ b5) hgr748 (fun g hg => by have := hbd729 g hg; omega) (fun g hg => by omega)
          have hb8 := Grew.box hgr748 hb8 (fun g hg => by have := hbd729 g hg; omega)
          have hp753 : ∀ g, v745.ownBlock = some g → g ≠ b12 := Grew.sepP (p := fun g => g ≠ b12) hgr748 (fun g hg => by have := hbd729 g hg; omega) (fun g hg => by omega)
          have hb15 := Grew.box hgr748 hb15 (fun g hg => by have := hbd729 g hg; omega)
          have hp754 : ∀ g, v745.ownBlock = some g → g ≠ b650 := Grew.sepP (p := fun g => g ≠ b650) hgr748 (fun g hg => by have := hbd729 g hg; omega) (fun g hg => by omega)
          have hb653 := Grew.box hgr748 hb653 (fun g hg => by have := hbd729 g hg; omega)
          have hp755 : ∀ g q, v717.ownBlock = some g → v731.ownBlock = some q → g ≠ q := (fun g q hg hq e => hp742 q g hq hg e.symm)
          have hp756 : ∀ g q, v745.ownBlock = some g → v731.ownBlock = some q → g ≠ q := fun g q hg hq => Grew.sepP (p := fun g => ∀ q, v731.ownBlock = some q → g ≠ q) hgr748 (fun g hg q hq => (hp755) g q hg hq) (fun g hg q hq => by have := hbd744 q hq; omega) g hg q hq
          have hs733 := Grew.ownF hgr748 hs733 hp755
          have hz757 := (hgr748).1.size
          have hbd758 : ∀ g, v745.ownBlock = some g → g719 ≤ g ∧ g < w746.heap.size := Grew.bd hgr748 hs747 (fun g hg => ⟨by have := hbd729 g hg; omega, (hbd729 g hg).2⟩) (by omega) (by omega)
          refine ⟨hbs750, ?_⟩
          refine HL.yld 8 (by kernel_rfl) rfl (by kernel_rfl) rfl rfl (yld_build (uss := [(0, [v731]), (1, [v745])]) (out := [v731, v745]) rfl rfl zn_38 pl_38 (pt_cons (slRep.cl (ownR.slf hs733 (Nat.le_refl _) (Nat.le_refl _))) (pt_cons (slRep.cl (ownR.slf hs747 (Nat.le_refl _) (Nat.le_refl _))) rfl)) rfl) ?_
          refine HL.tail rfl (by kernel_rfl) rfl ?_
          refine TL.eff rfl rfl (eff_store rfl rfl rfl hb653 cn_38 (allc_cons (slRep.one (ownR.slf hs733 (Nat.le_refl _) (Nat.le_refl _))) (allc_cons (slRep.one (ownR.slf hs747 (Nat.le_refl _) (Nat.le_refl _))) allc_nil)) rfl) ?_
          rintro _ w759 ⟨hu760, hb761⟩
          have he762 : Ext w w759 := Below.trans he751 (Upd.below hu760 (by omega))
          have hb8 := Box.upd hb8 hu760 (by omega)
          have hb15 := Box.upd hb15 hu760 (by omega)
          have hs733 := ownR.upd hs733 hu760 hp740
          have hs747 := ownR.upd hs747 hu760 hp754
          have hz763 := (hu760).size
          have hb653 : Box w759 b650 [v731, v745] 38 := hb761
          refine TL.noPan (l := []) ?_
          exact fun a hK => ⟨rfl, b650, v731, v745, hK.weaken ⟨rfl, rfl, rfl, trivial⟩, he762, (by omega), hb15, hb653, ⟨by omega, Box.lt hb653⟩, (ownR.base hs733 (by omega)), (fun g hg => by have := hbd744 g hg; omega), (ownR.base hs747 (by omega)), (fun g hg => by have := hbd758 g hg; omega), (by omega), hp739, hp740, hp753, hp754, hp756⟩
      ·
        refine HB.eff 4 rfl rfl (by kernel_rfl) rfl rfl (eff_buildSlice (c := C_LatchLink) (xs := ([] : List S_LatchLink)) (S := (Iv 0 0)) (uss := []) (out := []) rfl Try.underlying36 in_77 rfl rfl (fillL_all [] rfl rfl rfl) rfl rfl rfl rfl (one_rep (uss := []) (show reps _ _ _ _ _ from trivial) rfl) (fun k h => by have := h.2; omega) rfl) ?_
        rintro v764 w765 ⟨g766, hv767, hg768, hz769, hx770, hs771⟩
        have hbs772 : Ext w102 w765 := Ext.trans hbs655 hx770
        have he773 : Ext w w765 := Ext.trans he656 hx770
        have hb8 := Box.ext hb8 hx770
        have hb15 := Box.ext hb15 hx770
        have hb653 := Box.ext hb653 hx770
        have hz774 := (hx770).size
        have hlo775 : w.heap.size ≤ g766 := by rw [hg768]; exact (he656).size
        have hbd776 := bd_of hv767
        clear hv767
        refine ⟨hbs772, ?_⟩
        refine HL.eff 0 rfl rfl (by kernel_rfl) rfl rfl (eff_buildSlice (c := C_Latch) (xs := ([] : List S_Latch)) (S := (Iv 0 0)) (uss := []) (out := []) rfl Try.underlying35 in_50 rfl rfl (fillL_all [] rfl rfl rfl) rfl rfl rfl rfl (one_rep (uss := []) (show reps _ _ _ _ _ from trivial) rfl) (fun k h => by have := h.2; omega) rfl) ?_
        rintro v778 w779 ⟨g780, hv781, hg782, hz783, hx784, hs785⟩
        have hbs786 : Ext w102 w779 := Ext.trans hbs772 hx784
        have he787 : Ext w w779 := Ext.trans he773 hx784
        have hb8 := Box.ext hb8 hx784
        have hb15 := Box.ext hb15 hx784
        have hb653 := Box.ext hb653 hx784
        have hs771 := ownR.ext hs771 hx784
        have hz788 := (hx784).size
        have hlo789 : w.heap.size ≤ g780 := by rw [hg782]; exact (he773).size
        have hbd790 := bd_of hv781
        clear hv781
        refine ⟨hbs786, ?_⟩
        refine HL.eff 3 rfl rfl (by kernel_rfl) rfl rfl (eff_appendF (c := C_Latch) rfl Try.underlying35 in_50 rfl rfl rfl rfl rfl hs785 (by omega) (slRep.old ha2 he787 (Nat.le_refl _)) ha33) ?_
        rintro v792 w793 ⟨hs794, hgr795⟩
        have hbs797 : Ext w102 w793 := Below.trans hbs786 (Grew.low hgr795 (fun g hg => by have := hbd790 g hg; omega) (hbs786).size)
        have he798 : Ext w w793 := Below.trans he787 (Grew.low hgr795 (fun g hg => by have := hbd790 g hg; omega) (he787).size)
        have hp799 : ∀ g, v792.ownBlock = some g → g ≠ b5 := Grew.sepP (p := fun g => g ≠ b5) hgr795 (fun g hg => by have := hbd790 g hg; omega) (fun g hg => by omega)
        have hb8 := Grew.box hgr795 hb8 (fun g hg => by have := hbd790 g hg; omega)
        have hp800 : ∀ g, v792.ownBlock = some g → g ≠ b12 := Grew.sepP (p := fun g => g ≠ b12) hgr795 (fun g hg => by have := hbd790 g hg; omega) (fun g hg => by omega)
        have hb15 := Grew.box hgr795 hb15 (fun g hg => by have := hbd790 g hg; omega)
        have hp801 : ∀ g, v792.ownBlock = some g → g ≠ b650 := Grew.sepP (p := fun g => g ≠ b650) hgr795 (fun g hg => by have := hbd790 g hg; omega) (fun g hg => by omega)
        have hb653 := Grew.box hgr795 hb653 (fun g hg => by have := hbd790 g hg; omega)
        have hp802 : ∀ g q, v778.ownBlock = some g → v764.ownBlock = some q → g ≠ q := (fun g q hg hq => by have := hbd790 g hg; have := hbd776 q hq; omega)
        have hp803 : ∀ g q, v792.ownBlock = some g → v764.ownBlock = some q → g ≠ q := fun g q hg hq => Grew.sepP (p := fun g => ∀ q, v764.ownBlock = some q → g ≠ q) hgr795 (fun g hg q hq => (hp802) g q hg hq) (fun g hg q hq => by have := hbd776 q hq; omega) g hg q hq
        have hs771 := Grew.ownF hgr795 hs771 hp802
        have hz804 := (hgr795).1.size
        have hbd805 : ∀ g, v792.ownBlock = some g → g780 ≤ g ∧ g < w793.heap.size := Grew.bd hgr795 hs794 (fun g hg => ⟨by have := hbd790 g hg; omega, (hbd790 g hg).2⟩) (by omega) (by omega)
        refine ⟨hbs797, ?_⟩
        refine HL.eff 7 rfl rfl (by kernel_rfl) rfl rfl (eff_appendF (c := C_LatchLink) rfl Try.underlying36 in_77 rfl rfl rfl rfl rfl hs771 (by omega) (slRep.old ha4 he798 (Nat.le_refl _)) ha58) ?_
        rintro v806 w807 ⟨hs808, hgr809⟩
        have hbs811 : Ext w102 w807 := Below.trans hbs797 (Grew.low hgr809 (fun g hg => by have := hbd776 g hg; omega) (hbs797).size)
        have he812 : Ext w w807 := Below.trans he798 (Grew.low hgr809 (fun g hg => by have := hbd776 g hg; omega) (he798).size)
        have hp813 : ∀ g, v806.ownBlock = some g → g ≠ b5 := Grew.sepP (p := fun g => g ≠ b5) hgr809 (fun g hg => by have := hbd776 g hg; omega) (fun g hg => by omega)
        have hb8 := Grew.box hgr809 hb8 (fun g hg => by have := hbd776 g hg; omega)
        have hp814 : ∀ g, v806.ownBlock = some g → g ≠ b12 := Grew.sepP (p := fun g => g ≠ b12) hgr809 (fun g hg => by have := hbd776 g hg; omega) (fun g hg => by omega)
        have hb15 := Grew.box hgr809 hb15 (fun g hg => by have := hbd776 g hg; omega)
        have hp815 : ∀ g, v806.ownBlock = some g → g ≠ b650 := Grew.sepP (p := fun g => g ≠ b650) hgr809 (fun g hg => by have := hbd776 g hg; omega) (fun g hg => by omega)
        have hb653 := Grew.box hgr809 hb653 (fun g hg => by have := hbd776 g hg; omega)
        have hp816 : ∀ g q, v764.ownBlock = some g → v792.ownBlock = some q → g ≠ q := (fun g q hg hq e => hp803 q g hq hg e.symm)
        have hp817 : ∀ g q, v806.ownBlock = some g → v792.ownBlock = some q → g ≠ q := fun g q hg hq => Grew.sepP (p := fun g => ∀ q, v792.ownBlock = some q → g ≠ q) hgr809 (fun g hg q hq => (hp816) g q hg hq) (fun g hg q hq => by have := hbd805 q hq; omega) g hg q hq
        have hs794 := Grew.ownF hgr809 hs794 hp816
        have hz818 := (hgr809).1.size
        have hbd819 : ∀ g, v806.ownBlock = some g → g766 ≤ g ∧ g < w807.heap.size := Grew.bd hgr809 hs808 (fun g hg => ⟨by have := hbd776 g hg; omega, (hbd776 g hg).2⟩) (by omega) (by omega)
        refine ⟨hbs811, ?_⟩
        refine HL.yld 8 (by kernel_rfl) rfl (by kernel_rfl) rfl rfl (yld_build (uss := [(0, [v792]), (1, [v806])]) (out := [v792, v806]) rfl rfl zn_38 pl_38 (pt_cons (slRep.cl (ownR.slf hs794 (Nat.le_refl _) (Nat.le_refl _))) (pt_cons (slRep.cl (ownR.slf hs808 (Nat.le_refl _) (Nat.le_refl _))) rfl)) rfl) ?_
        refine HL.tail rfl (by kernel_rfl) rfl ?_
        refine TL.eff rfl rfl (eff_store rfl rfl rfl hb653 cn_38 (allc_cons (slRep.one (ownR.slf hs794 (Nat.le_refl _) (Nat.le_refl _))) (allc_cons (slRep.one (ownR.slf hs808 (Nat.le_refl _) (Nat.le_refl _))) allc_nil)) rfl) ?_
        rintro _ w820 ⟨hu821, hb822⟩
        have he823 : Ext w w820 := Below.trans he812 (Upd.below hu821 (by omega))
        have hb8 := Box.upd hb8 hu821 (by omega)
        have hb15 := Box.upd hb15 hu821 (by omega)
        have hs794 := ownR.upd hs794 hu821 hp801
        have hs808 := ownR.upd hs808 hu821 hp815
        have hz824 := (hu821).size
        have hb653 : Box w820 b650 [v792, v806] 38 := hb822
        refine TL.noPan (l := []) ?_
        exact fun a hK => ⟨rfl, b650, v792, v806, hK.weaken ⟨rfl, rfl, rfl, trivial⟩, he823, (by omega), hb15, hb653, ⟨by omega, Box.lt hb653⟩, (ownR.base hs794 (by omega)), (fun g hg => by have := hbd805 g hg; omega), (ownR.base hs808 (by omega)), (fun g hg => by have := hbd819 g hg; omega), (by omega), hp800, hp801, hp814, hp815, hp817⟩
  ·
    rintro a w83 ⟨b86, v88, v91, hK, he84, hz94, hb85, hb87, hlo95, hs89, hbd90, hs92, hbd93, hp96, hp97, hp98, hp99, hp100, hp101⟩
    revert hK; revert a; refine (?_ : NX _ _ _ _ _)
    refine NX.seq ?_
    refine WC.seq ?_
    refine WC.seq ?_
    refine WC.region ?_
    refine TL.yld rfl rfl (yld_assign rfl rfl) ?_
    refine TL.done ?_
    refine NX.seq ?_
    refine WC.block ?_
    refine WC.loop (fun m833 a wl => ∃ (i827 : Int) (l831 : List S_LatchLink), Kn 37 [(1, .int .i64 a1_by), (4, .pointer (some ⟨b12, 0, none⟩)), (5, .pointer (some ⟨b86, 0, none⟩)), (6, .int .i64 i827)] a ∧ Ext w wl ∧ w83.heap.size ≤ wl.heap.size ∧ Box wl b12 [.slice none 0 0, .slice none 0 0] 38 ∧ Box wl b86 [v88, v91] 38 ∧ ownR C_Latch wl (w13.heap.size) (Iv 0 0) 50 z32 v88 ∧ ownR C_LatchLink wl (w13.heap.size) (Iv 0 0) 77 l831 v91 ∧ F_spec_l18Shifted_L1 a1_by (fun i827 l831 => (some ((S_LatchSystem.mk z32 l831)))) m833 i827 l831 = some r) n ?_ ?_
    · intro a hK; exact ⟨0, z57, hK.weaken ⟨rfl, rfl, rfl, rfl, trivial⟩, he84, Nat.le_refl _, hb85, hb87, hs89, hs92, hF⟩
    · rintro m833 a w825 ⟨i827, l831, hK, he826, hz834, hb828, hb829, hs830, hs832, hF⟩
      revert hK; revert a; refine (?_ : WC _ _ _ _ _ _)
      cases m833 with
      | zero => rw [F_spec_l18Shifted_L1_z] at hF; cases hF
      | succ m833 =>
        rw [F_spec_l18Shifted_L1_s] at hF
        refine WC.seq ?_
        refine WC.seq ?_
        refine WC.region ?_
        refine TL.yld rfl rfl (yld_move rfl rfl) ?_
        refine TL.yld rfl rfl (yld_fieldAddr rfl fo_38_1 rfl) ?_
        refine TL.yld rfl rfl (yld_load1 1 rfl ag_36 rfl (Box.cells hb829) rfl rfl) ?_
        refine TL.yld rfl rfl (yld_len_own (c := C_LatchLink) rfl Try.underlying36 rfl hs832) ?_
        refine TL.yld rfl rfl (yld_lss rfl rfl rfl) ?_
        refine TL.done ?_
        refine NX.seq ?_
        refine WC.cond rfl ?_ ?_
        · intro hc835
          replace hF := bif_t hc835 hF
          refine WC.skip' ?_
          refine NX.seq ?_
          refine WC.seq ?_
          refine WC.block ?_
          obtain ⟨x836, hy837, hF⟩ := bsome hF
          obtain ⟨x843, hy844, hF⟩ := bsome hF
          refine WC.held 11 Try.hm fun w855 hx856 => ?_
          have he857 : Ext w w855 := Ext.trans he826 hx856
          have hb828 := Box.ext hb828 hx856
          have hb829 := Box.ext hb829 hx856
          have hs830 := ownR.ext hs830 hx856
          have hs832 := ownR.ext hs832 hx856
          have hz858 := (hx856).size
          refine HL.yld 0 (by kernel_rfl) rfl (by kernel_rfl) rfl rfl (yld_fieldAddr rfl fo_38_1 rfl) ?_
          refine HL.yld 1 (by kernel_rfl) rfl (by kernel_rfl) rfl rfl (yld_load1 1 rfl ag_36 rfl (Box.cells hb829) rfl rfl) ?_
          refine HL.yld 2 (by kernel_rfl) rfl (by kernel_rfl) rfl rfl (yld_move rfl rfl) ?_
          refine HL.yld 3 (by kernel_rfl) rfl (by kernel_rfl) rfl rfl (yld_fieldAddr rfl fo_38_1 rfl) ?_
          refine HL.yld 4 (by kernel_rfl) rfl (by kernel_rfl) rfl rfl (yld_load1 1 rfl ag_36 rfl (Box.cells hb829) rfl rfl) ?_
          refine HL.yld 5 (by kernel_rfl) rfl (by kernel_rfl) rfl rfl (yld_move rfl rfl) ?_
          refine HL.ye 6 (by kernel_rfl) rfl (by kernel_rfl) rfl rfl (ye_index_own (c := C_LatchLink) rfl Try.underlying36 cn_77 rfl rfl hs832 hy837) ?_
          rintro _ ⟨g859, us861, rfl, hg860, hr862, hcl863⟩
          have hr862r := hr862
          obtain rfl := C_LatchLink_open hr862
          refine HL.yld 7 (by kernel_rfl) rfl (by kernel_rfl) rfl rfl (yld_fieldAddr rfl fo_77_3 rfl) ?_
          refine HL.yld 8 (by kernel_rfl) rfl (by kernel_rfl) rfl rfl (yld_load1 3 rfl ag_2 rfl hcl863 rfl rfl) ?_
          refine HL.yld 9 (by kernel_rfl) rfl (by kernel_rfl) rfl rfl (yld_move rfl rfl) ?_
          refine HL.yld 10 (by kernel_rfl) rfl (by kernel_rfl) rfl rfl (yld_add rfl rfl rfl) ?_
          refine HL.tail rfl (by kernel_rfl) rfl ?_
          refine TL.ye rfl rfl (ye_index_own (c := C_LatchLink) rfl Try.underlying36 cn_77 rfl rfl hs832 hy844) ?_
          rintro _ ⟨g864, us866, rfl, hg865, hr867, hcl868⟩
          have hr867r := hr867
          obtain rfl := C_LatchLink_open hr867
          refine TL.yld rfl rfl (yld_fieldAddr rfl fo_77_3 rfl) ?_
          refine TL.eff rfl rfl (eff_store_own (c := C_LatchLink) (us' := [.int .i64 x843.From, .int .i64 x843.To, .int .i64 x843.Delay, .int .i64 (IntKind.wrap IntKind.i64 (x836.Shift + a1_by))]) (y' := (S_LatchLink.mk x843.From x843.To x843.Delay (IntKind.wrap IntKind.i64 (x836.Shift + a1_by)))) 3 _ rfl rfl rfl hs832 hg865 hy844 rfl cn_2 rfl hr867r hcl868 rfl rfl C_LatchLink_mk (fun k h => absurd h.2 (Nat.not_lt_zero k))) ?_
          rintro _ w869 ⟨hu870, hs871⟩
          have he872 : Ext w w869 := Below.trans he857 (Upd.below hu870 (by have := hbd93 _ hg865; omega))
          have hb828 := Box.upd hb828 hu870 (by have := hp99 _ hg865; omega)
          have hb829 := Box.upd hb829 hu870 (by have := hp100 _ hg865; omega)
          have hs830 := ownR.upd hs830 hu870 (fun q hq => by have := hp101 _ q hg865 hq; omega)
          have hz873 := (hu870).size
          refine TL.noPan (l := []) ?_
          refine NX.blk_n ?_
          refine NX.seq ?_
          refine WC.region ?_
          refine TL.yld rfl rfl (yld_move rfl rfl) ?_
          refine TL.yld rfl rfl (yld_add rfl rfl rfl) ?_
          refine TL.yld rfl rfl (yld_assign rfl rfl) ?_
          refine TL.done ?_
          refine NX.then_n ?_
          intro a hK; exact ⟨m833, Nat.lt_succ_self m833, (IntKind.wrap IntKind.i64 (i827 + 1)), ((l831.set (i827).toNat ((S_LatchLink.mk x843.From x843.To x843.Delay (IntKind.wrap IntKind.i64 (x836.Shift + a1_by)))))), hK.weaken ⟨rfl, rfl, rfl, rfl, trivial⟩, he872, (by omega), hb828, hb829, hs830, hs871, hF⟩
        · intro hc874
          replace hF := bif_f hc874 hF
          refine WC.exit' ?_
          refine NX.then_e ?_
          refine NX.then_e ?_
          refine NX.blk_hit ?_
          refine NX.seq ?_
          refine WC.seq ?_
          refine WC.region ?_
          refine TL.yld rfl rfl (yld_loadN (us := [v88, v91]) rfl ag_38 rfl (Box.cells hb829) cn_38) ?_
          refine TL.eff rfl rfl (eff_store rfl rfl rfl hb828 cn_38 (allc_cons (slRep.one (ownR.slf hs830 (Nat.le_refl _) (Nat.le_refl _))) (allc_cons (slRep.one (ownR.slf hs832 (Nat.le_refl _) (Nat.le_refl _))) allc_nil)) rfl) ?_
          rintro _ w875 ⟨hu876, hb877⟩
          have he878 : Ext w w875 := Below.trans he826 (Upd.below hu876 (by omega))
          have hb829 := Box.upd hb829 hu876 (by omega)
          have hs830 := ownR.upd hs830 hu876 hp97
          have hs832 := ownR.upd hs832 hu876 hp99
          have hz879 := (hu876).size
          have hb828 : Box w875 b12 [v88, v91] 38 := hb877
          refine TL.done ?_
          refine NX.seq ?_
          refine WC.ret' ?_
          obtain rfl := Option.some.inj hF
          exact NX.end (rs := [.cell 4 38]) (vs := [.agg #[v88, v91]]) rfl ⟨⟨b12, rfl, box_load ag_38 cn_38 hb828⟩, trivial⟩ ⟨_, rfl, _, _, rfl, ownR.base hs830 (by omega), ownR.base hs832 (by omega), hp101, he878⟩

-- loop.example/g00861/spec.ShiftLinks
def F_spec_ShiftLinks (n : Nat) (a0_s : S_LatchSystem) (a1_by : Int) : Option (S_LatchSystem × Int) := (Option.bind (F_spec_IsLatchSystem n a0_s) fun r19 => (bif (!r19) then (some ((S_LatchSystem.mk (([] : List S_Latch)) (([] : List S_LatchLink))), 1)) else (Option.bind (bif decide (a1_by < 0) then (some true) else (Option.bind (F_spec_l18Room n a0_s) fun r32 => (some (((decide (a1_by > r32)) && (decide ((a0_s.Links.length : Int) > 0))))))) fun c32 => (bif c32 then (some ((S_LatchSystem.mk (([] : List S_Latch)) (([] : List S_LatchLink))), 2)) else (Option.bind (F_spec_l18Shifted n a0_s a1_by) fun r57 => (some (r57, 0)))))))
set_option maxHeartbeats 4000000 in
theorem W_spec_ShiftLinks {n : Nat} {a0_s : S_LatchSystem} {a1_by : Int} {r : S_LatchSystem × Int} {w : World} {v1 : Value} {v3 : Value} (hF : F_spec_ShiftLinks n a0_s a1_by = some r) (ha2 : slRep C_Latch w (Iv 0 w.heap.size) a0_s.Latches v1) (ha4 : slRep C_LatchLink w (Iv 0 w.heap.size) a0_s.Links v3) :
    Calls Try.prog 41 [.agg #[v1, v3], .int .i64 a1_by].toArray w (Ret fun u w2 => ∃ v0_0 v0_1, u = .tuple #[.agg #[v0_0, v0_1], .int .i64 r.2] ∧ ownR C_Latch w2 w.heap.size (Iv 0 0) 50 r.1.Latches v0_0 ∧ ownR C_LatchLink w2 w.heap.size (Iv 0 0) 77 r.1.Links v0_1 ∧ (∀ g q, v0_1.ownBlock = some g → v0_0.ownBlock = some q → g ≠ q) ∧ Ext w w2) := by
  refine calls_of Try.func41 rfl Try.ntmps41 ?_
  have he0 : Ext w w := Ext.refl w
  unfold F_spec_ShiftLinks at hF
  refine WC.seq ?_
  refine WC.region ?_
  refine TL.eff rfl rfl (eff_box rfl rfl) ?_
  rintro _ w6 ⟨b5, rfl, hn7⟩
  obtain ⟨hn7e, hn7s, hn7x, hb8⟩ := hn7
  have hb8 : Box w6 b5 [v1, v3] 38 := hb8
  have he10 : Ext w w6 := Ext.trans he0 hn7x
  have hz11 := (hn7x).size
  have hlo9 : w.heap.size ≤ b5 := by rw [hn7e]; exact (he0).size
  refine TL.eff rfl rfl (eff_alloc rfl zn_38) ?_
  rintro _ w13 ⟨b12, rfl, hn14⟩
  obtain ⟨hn14e, hn14s, hn14x, hb15⟩ := hn14
  have hb15 : Box w13 b12 [.slice none 0 0, .slice none 0 0] 38 := hb15
  have he17 : Ext w w13 := Ext.trans he10 hn14x
  have hb8 := Box.ext hb8 hn14x
  have hz18 := (hn14x).size
  have hlo16 : w.heap.size ≤ b12 := by rw [hn14e]; exact (he10).size
  refine TL.yld rfl rfl (yld_assign rfl rfl) ?_
  refine TL.done ?_
  refine NX.seq ?_
  refine WC.seq ?_
  refine WC.seq ?_
  refine WC.region ?_
  refine TL.yld rfl rfl (yld_loadN (us := [v1, v3]) rfl ag_38 rfl (Box.cells hb8) cn_38) ?_
  obtain ⟨r19, hr20, hF⟩ := bsome hF
  refine TL.eff rfl rfl (eff_call rfl gf_19 rfl (W_spec_IsLatchSystem hr20 ((slRep.old ha2 he17 (Nat.le_refl _)).wide (Nat.le_refl _) (he17).size) ((slRep.old ha4 he17 (Nat.le_refl _)).wide (Nat.le_refl _) (he17).size))) ?_
  rintro _ w21 ⟨rfl, hx22⟩
  have he23 : Ext w w21 := Ext.trans he17 hx22
  have hb8 := Box.ext hb8 hx22
  have hb15 := Box.ext hb15 hx22
  have hz24 := (hx22).size
  refine TL.yld rfl rfl (yld_not rfl rfl) ?_
  refine TL.done ?_
  refine NX.seq ?_
  refine WC.cond rfl ?_ ?_
  · intro hc25
    replace hF := bif_t hc25 hF
    refine WC.seq ?_
    refine WC.region ?_
    refine TL.yld rfl rfl (yld_build (uss := []) (out := [.slice none 0 0, .slice none 0 0]) rfl rfl zn_38 pl_38 rfl rfl) ?_
    refine TL.eff rfl rfl (eff_store rfl rfl rfl hb15 cn_38 rfl rfl) ?_
    rintro _ w26 ⟨hu27, hb28⟩
    have he29 : Ext w w26 := Below.trans he23 (Upd.below hu27 (by omega))
    have hb8 := Box.upd hb8 hu27 (by omega)
    have hz30 := (hu27).size
    have hb15 : Box w26 b12 [.slice none 0 0, .slice none 0 0] 38 := hb28
    refine TL.yld rfl rfl (yld_assign rfl rfl) ?_
    refine TL.done ?_
    refine NX.seq ?_
    refine WC.ret' ?_
    refine NX.then_r ?_
    obtain rfl := Option.some.inj hF
    exact NX.end (rs := [.cell 4 38, .tmp 5]) (vs := [.agg #[.slice none 0 0, .slice none 0 0], .int .i64 1]) rfl ⟨⟨b12, rfl, box_load ag_38 cn_38 hb15⟩, rfl, trivial⟩ ⟨_, rfl, _, _, rfl, ownR.nil _ _ _ _ _, ownR.nil _ _ _ _ _, (fun g q hg hq => by first | cases hg | cases hq), he29⟩
  · intro hc31
    replace hF := bif_f hc31 hF
    refine WC.skip' ?_
    refine NX.seq ?_
    refine WC.seq ?_
    refine WC.seq ?_
    refine WC.region ?_
    refine TL.yld rfl rfl (yld_move rfl rfl) ?_
    refine TL.yld rfl rfl (yld_lss rfl rfl rfl) ?_
    refine TL.yld rfl rfl (yld_move rfl rfl) ?_
    obtain ⟨c32, hb33, hF⟩ := bsome hF
    refine TL.cut 11 [(1, .int .i64 a1_by), (2, .pointer (some ⟨b5, 0, none⟩)), (4, .pointer (some ⟨b12, 0, none⟩)), (23, .bool c32)] (fun w' => Ext w21 w') ?_ ?_
    · rcases Bool.eq_false_or_eq_true (decide (a1_by < 0)) with hg34 | hg34
      ·
        rw [hg34] at hb33; simp only [cond_true, cond_false] at hb33
        refine TL.gnu (j := 2) (t := 12) rfl rfl rfl hg34 rfl ?_
        refine TL.gnu (j := 2) (t := 12) rfl rfl rfl hg34 rfl ?_
        refine TL.gnu (j := 2) (t := 12) rfl rfl rfl hg34 rfl ?_
        refine TL.gnu (j := 2) (t := 12) rfl rfl rfl hg34 rfl ?_
        refine TL.gnu (j := 2) (t := 12) rfl rfl rfl hg34 rfl ?_
        refine TL.gu (j := 7) (t := 17) rfl rfl rfl rfl ?_
        refine TL.gu (j := 7) (t := 17) rfl rfl rfl rfl ?_
        refine TL.gu (j := 7) (t := 17) rfl rfl rfl rfl ?_
        refine TL.gu (j := 7) (t := 17) rfl rfl rfl rfl ?_
        refine TL.gnu (j := 2) (t := 12) rfl rfl rfl hg34 rfl ?_
        obtain rfl := Option.some.inj hb33
        refine TL.yld rfl rfl (yld_pick_t rfl rfl hg34 rfl) ?_
        exact TL.nil fun a h => ⟨h.weaken ⟨rfl, rfl, rfl, rfl, trivial⟩, Ext.refl _⟩
      ·
        rw [hg34] at hb33; simp only [cond_true, cond_false] at hb33
        replace hF := hb33
        refine TL.gy (j := 2) (t := 12) rfl rfl rfl hg34 rfl (yld_move rfl rfl) ?_
        refine TL.gy (j := 2) (t := 12) rfl rfl rfl hg34 rfl (yld_loadN (us := [v1, v3]) rfl ag_38 rfl (Box.cells hb8) cn_38) ?_
        obtain ⟨r35, hr36, hF⟩ := bsome hF
        refine TL.ge (j := 2) (t := 12) rfl rfl rfl hg34 rfl (eff_call rfl gf_79 rfl (W_spec_l18Room hr36 ((slRep.old ha2 he23 (Nat.le_refl _)).wide (Nat.le_refl _) (he23).size) ((slRep.old ha4 he23 (Nat.le_refl _)).wide (Nat.le_refl _) (he23).size))) ?_
        rintro _ w37 ⟨rfl, hx38⟩
        have he39 : Ext w w37 := Ext.trans he23 hx38
        have hb8 := Box.ext hb8 hx38
        have hb15 := Box.ext hb15 hx38
        have hz40 := (hx38).size
        refine TL.gy (j := 2) (t := 12) rfl rfl rfl hg34 rfl (yld_gtr rfl rfl rfl) ?_
        refine TL.gy (j := 2) (t := 12) rfl rfl rfl hg34 rfl (yld_move rfl rfl) ?_
        refine TL.cut 5 [(1, .int .i64 a1_by), (2, .pointer (some ⟨b5, 0, none⟩)), (4, .pointer (some ⟨b12, 0, none⟩)), (12, .bool (decide (a1_by < 0))), (22, .bool (((decide (a1_by > r35)) && (decide ((a0_s.Links.length : Int) > 0)))))] (fun w' => Ext w37 w') ?_ ?_
        · rcases Bool.eq_false_or_eq_true (decide (a1_by > r35)) with hg41 | hg41
          ·
            refine TL.gy (j := 7) (t := 17) rfl rfl rfl hg41 rfl (yld_fieldAddr rfl fo_38_1 rfl) ?_
            refine TL.gy (j := 7) (t := 17) rfl rfl rfl hg41 rfl (yld_load1 1 rfl ag_36 rfl (Box.cells hb8) rfl rfl) ?_
            refine TL.gy (j := 7) (t := 17) rfl rfl rfl hg41 rfl (ye_len (c := C_LatchLink) rfl Try.underlying36 rfl (slRep.old ha4 he39 (Nat.le_refl _))) ?_
            refine TL.gy (j := 7) (t := 17) rfl rfl rfl hg41 rfl (yld_gtr rfl rfl rfl) ?_
            refine TL.gy (j := 2) (t := 12) rfl rfl rfl hg34 rfl (yld_and_t rfl rfl hg41 rfl) ?_
            exact TL.nil fun a h => ⟨h.weaken ⟨rfl, rfl, rfl, rfl, rfl, trivial⟩, Ext.refl _⟩
          ·
            refine TL.gnu (j := 7) (t := 17) rfl rfl rfl hg41 rfl ?_
            refine TL.gnu (j := 7) (t := 17) rfl rfl rfl hg41 rfl ?_
            refine TL.gnu (j := 7) (t := 17) rfl rfl rfl hg41 rfl ?_
            refine TL.gnu (j := 7) (t := 17) rfl rfl rfl hg41 rfl ?_
            refine TL.gy (j := 2) (t := 12) rfl rfl rfl hg34 rfl (yld_and_f (b2 := decide ((a0_s.Links.length : Int) > 0)) rfl rfl hg41 rfl) ?_
            exact TL.nil fun a h => ⟨h.weaken ⟨rfl, rfl, rfl, rfl, rfl, trivial⟩, Ext.refl _⟩
        intro w42 hx43
        have he44 : Ext w w42 := Ext.trans he39 hx43
        have hb8 := Box.ext hb8 hx43
        have hb15 := Box.ext hb15 hx43
        have hz45 := (hx43).size
        obtain rfl := Option.some.inj hF
        refine TL.yld rfl rfl (yld_pick_f rfl rfl hg34 rfl) ?_
        exact TL.nil fun a h => ⟨h.weaken ⟨rfl, rfl, rfl, rfl, trivial⟩, (Ext.trans hx38 hx43)⟩
    intro w46 hx47
    have he48 : Ext w w46 := Ext.trans he23 hx47
    have hb8 := Box.ext hb8 hx47
    have hb15 := Box.ext hb15 hx47
    have hz49 := (hx47).size
    refine TL.done ?_
    refine NX.seq ?_
    refine WC.cond rfl ?_ ?_
    · intro hc50
      replace hF := bif_t hc50 hF
      refine WC.seq ?_
      refine WC.region ?_
      refine TL.yld rfl rfl (yld_build (uss := []) (out := [.slice none 0 0, .slice none 0 0]) rfl rfl zn_38 pl_38 rfl rfl) ?_
      refine TL.eff rfl rfl (eff_store rfl rfl rfl hb15 cn_38 rfl rfl) ?_
      rintro _ w51 ⟨hu52, hb53⟩
      have he54 : Ext w w51 := Below.trans he48 (Upd.below hu52 (by omega))
      have hb8 := Box.upd hb8 hu52 (by omega)
      have hz55 := (hu52).size
      have hb15 : Box w51 b12 [.slice none 0 0, .slice none 0 0] 38 := hb53
      refine TL.yld rfl rfl (yld_assign rfl rfl) ?_
      refine TL.done ?_
      refine NX.seq ?_
      refine WC.ret' ?_
      refine NX.then_r ?_
      obtain rfl := Option.some.inj hF
      exact NX.end (rs := [.cell 4 38, .tmp 5]) (vs := [.agg #[.slice none 0 0, .slice none 0 0], .int .i64 2]) rfl ⟨⟨b12, rfl, box_load ag_38 cn_38 hb15⟩, rfl, trivial⟩ ⟨_, rfl, _, _, rfl, ownR.nil _ _ _ _ _, ownR.nil _ _ _ _ _, (fun g q hg hq => by first | cases hg | cases hq), he54⟩
    · intro hc56
      replace hF := bif_f hc56 hF
      refine WC.skip' ?_
      refine NX.seq ?_
      refine WC.seq ?_
      refine WC.region ?_
      refine TL.yld rfl rfl (yld_loadN (us := [v1, v3]) rfl ag_38 rfl (Box.cells hb8) cn_38) ?_
      refine TL.yld rfl rfl (yld_move rfl rfl) ?_
      obtain ⟨r57, hr58, hF⟩ := bsome hF
      refine TL.eff rfl rfl (eff_call rfl gf_80 rfl (W_spec_l18Shifted hr58 ((slRep.old ha2 he48 (Nat.le_refl _)).wide (Nat.le_refl _) (he48).size) ((slRep.old ha4 he48 (Nat.le_refl _)).wide (Nat.le_refl _) (he48).size))) ?_
      rintro _ w59 ⟨v61, v63, rfl, hs62, hs64, hp69, hx60⟩
      have he70 : Ext w w59 := Ext.trans he48 hx60
      have hb8 := Box.ext hb8 hx60
      have hb15 := Box.ext hb15 hx60
      have hz71 := (hx60).size
      have hbd66 := ownR.blk hs62
      have hbd68 := ownR.blk hs64
      refine TL.eff rfl rfl (eff_store rfl rfl rfl hb15 cn_38 (allc_cons (slRep.one (ownR.slf hs62 (Nat.le_refl _) (Nat.le_refl _))) (allc_cons (slRep.one (ownR.slf hs64 (Nat.le_refl _) (Nat.le_refl _))) allc_nil)) rfl) ?_
      rintro _ w72 ⟨hu73, hb74⟩
      have he75 : Ext w w72 := Below.trans he70 (Upd.below hu73 (by omega))
      have hb8 := Box.upd hb8 hu73 (by omega)
      have hs62 := ownR.upd hs62 hu73 (fun g hg => by have := hbd66 g hg; omega)
      have hs64 := ownR.upd hs64 hu73 (fun g hg => by have := hbd68 g hg; omega)
      have hz76 := (hu73).size
      have hb15 : Box w72 b12 [v61, v63] 38 := hb74
      refine TL.yld rfl rfl (yld_assign rfl rfl) ?_
      refine TL.done ?_
      refine NX.seq ?_
      refine WC.ret' ?_
      obtain rfl := Option.some.inj hF
      exact NX.end (rs := [.cell 4 38, .tmp 5]) (vs := [.agg #[v61, v63], .int .i64 0]) rfl ⟨⟨b12, rfl, box_load ag_38 cn_38 hb15⟩, rfl, trivial⟩ ⟨_, rfl, _, _, rfl, ownR.base hs62 (by omega), ownR.base hs64 (by omega), hp69, he75⟩

-- loop.example/g00861/impl.length[loop.example/g00861/impl.Latch]
def F_impl_length_impl_Latch (n : Nat) (a0_list : List S_Latch) : Option Int := (some ((a0_list.length : Int)))
set_option maxHeartbeats 4000000 in
theorem W_impl_length_impl_Latch {n : Nat} {a0_list : List S_Latch} {r : Int} {w : World} {v1 : Value} (hF : F_impl_length_impl_Latch n a0_list = some r) (ha2 : slRep C_Latch w (Iv 0 w.heap.size) a0_list v1) :
    Calls Try.prog 60 [v1].toArray w (Ret fun u w2 => u = .int .i64 r ∧ Ext w w2) := by
  refine calls_of Try.func60 rfl Try.ntmps60 ?_
  have he0 : Ext w w := Ext.refl w
  unfold F_impl_length_impl_Latch at hF
  refine WC.seq ?_
  refine WC.region ?_
  refine TL.yld rfl rfl (yld_assign rfl rfl) ?_
  refine TL.done ?_
  refine NX.seq ?_
  refine WC.seq ?_
  refine WC.region ?_
  refine TL.yld rfl rfl (yld_move rfl rfl) ?_
  refine TL.yld rfl rfl (ye_len (c := C_Latch) rfl Try.underlying35 rfl (slRep.old ha2 he0 (Nat.le_refl _))) ?_
  refine TL.yld rfl rfl (yld_assign rfl rfl) ?_
  refine TL.done ?_
  refine NX.seq ?_
  refine WC.ret' ?_
  obtain rfl := Option.some.inj hF
  exact NX.end (rs := [.tmp 2]) (vs := [.int .i64 ((a0_list.length : Int))]) rfl ⟨rfl, trivial⟩ ⟨_, rfl, rfl, he0⟩

-- loop.example/g00861/impl.within
def F_impl_within (n : Nat) (a0_x : Int) (a1_low : Int) (a2_high : Int) : Option Bool := (some (((decide (a0_x ≥ a1_low)) && (decide (a0_x ≤ a2_high)))))
set_option maxHeartbeats 4000000 in
theorem W_impl_within {n : Nat} {a0_x : Int} {a1_low : Int} {a2_high : Int} {r : Bool} {w : World} (hF : F_impl_within n a0_x a1_low a2_high = some r) :
    Calls Try.prog 61 [.int .i64 a0_x, .int .i64 a1_low, .int .i64 a2_high].toArray w (Ret fun u w2 => u = .bool r ∧ Ext w w2) := by
  refine calls_of Try.func61 rfl Try.ntmps61 ?_
  have he0 : Ext w w := Ext.refl w
  unfold F_impl_within at hF
  refine WC.seq ?_
  refine WC.region ?_
  refine TL.yld rfl rfl (yld_assign rfl rfl) ?_
  refine TL.done ?_
  refine NX.seq ?_
  refine WC.seq ?_
  refine WC.region ?_
  refine TL.yld rfl rfl (yld_move rfl rfl) ?_
  refine TL.yld rfl rfl (yld_move rfl rfl) ?_
  refine TL.yld rfl rfl (yld_geq rfl rfl rfl) ?_
  refine TL.yld rfl rfl (yld_move rfl rfl) ?_
  refine TL.cut 4 [(14, .bool (((decide (a0_x ≥ a1_low)) && (decide (a0_x ≤ a2_high)))))] (fun w' => Ext w w') ?_ ?_
  · rcases Bool.eq_false_or_eq_true (decide (a0_x ≥ a1_low)) with hg1 | hg1
    ·
      refine TL.gy (j := 3) (t := 10) rfl rfl rfl hg1 rfl (yld_move rfl rfl) ?_
      refine TL.gy (j := 3) (t := 10) rfl rfl rfl hg1 rfl (yld_move rfl rfl) ?_
      refine TL.gy (j := 3) (t := 10) rfl rfl rfl hg1 rfl (yld_leq rfl rfl rfl) ?_
      refine TL.yld rfl rfl (yld_and_t rfl rfl hg1 rfl) ?_
      exact TL.nil fun a h => ⟨h.weaken ⟨rfl, trivial⟩, Ext.refl _⟩
    ·
      refine TL.gnu (j := 3) (t := 10) rfl rfl rfl hg1 rfl ?_
      refine TL.gnu (j := 3) (t := 10) rfl rfl rfl hg1 rfl ?_
      refine TL.gnu (j := 3) (t := 10) rfl rfl rfl hg1 rfl ?_
      refine TL.yld rfl rfl (yld_and_f (b2 := decide (a0_x ≤ a2_high)) rfl rfl hg1 rfl) ?_
      exact TL.nil fun a h => ⟨h.weaken ⟨rfl, trivial⟩, Ext.refl _⟩
  intro w2 hx3
  have he4 : Ext w w2 := Ext.trans he0 hx3
  have hz5 := (hx3).size
  refine TL.yld rfl rfl (yld_assign rfl rfl) ?_
  refine TL.done ?_
  refine NX.seq ?_
  refine WC.ret' ?_
  obtain rfl := Option.some.inj hF
  exact NX.end (rs := [.tmp 6]) (vs := [.bool (((decide (a0_x ≥ a1_low)) && (decide (a0_x ≤ a2_high))))]) rfl ⟨rfl, trivial⟩ ⟨_, rfl, rfl, he4⟩

-- loop.example/g00861/impl.IsLatchSystem
def F_impl_IsLatchSystem_L2 (n : Nat) (a0_s : S_LatchSystem) (r16 : Int) (k2 : Int → Option Bool) : Nat → Int → Option Bool
  | 0 => fun _ => none
  | m + 1 => fun i24 => (bif decide (i24 < (a0_s.Links.length : Int)) then (Option.bind (getI a0_s.Links i24) fun x27 => (Option.bind (F_impl_within n x27.From 0 (IntKind.wrap IntKind.i64 (r16 - 1))) fun r47 => (Option.bind (bif (!r47) then (some true) else (Option.bind (F_impl_within n x27.To 0 (IntKind.wrap IntKind.i64 (r16 - 1))) fun r53 => (some (!r53)))) fun c53 => (Option.bind (bif c53 then (some true) else (Option.bind (F_impl_within n x27.Delay 0 100000) fun r66 => (some (!r66)))) fun c66 => (Option.bind (bif c66 then (some true) else (Option.bind (F_impl_within n x27.Shift 0 100000) fun r79 => (some (!r79)))) fun c79 => (bif c79 then (some false) else (F_impl_IsLatchSystem_L2 n a0_s r16 k2 m (IntKind.wrap IntKind.i64 (i24 + 1))))))))) else (k2 i24))
theorem F_impl_IsLatchSystem_L2_z (n : Nat) (a0_s : S_LatchSystem) (r16 : Int) (k2 : Int → Option Bool) (i24 : Int) : F_impl_IsLatchSystem_L2 n a0_s r16 k2 0 i24 = none := rfl
theorem F_impl_IsLatchSystem_L2_s (m : Nat) (n : Nat) (a0_s : S_LatchSystem) (r16 : Int) (k2 : Int → Option Bool) (i24 : Int) : F_impl_IsLatchSystem_L2 n a0_s r16 k2 (m + 1) i24 = (bif decide (i24 < (a0_s.Links.length : Int)) then (Option.bind (getI a0_s.Links i24) fun x27 => (Option.bind (F_impl_within n x27.From 0 (IntKind.wrap IntKind.i64 (r16 - 1))) fun r47 => (Option.bind (bif (!r47) then (some true) else (Option.bind (F_impl_within n x27.To 0 (IntKind.wrap IntKind.i64 (r16 - 1))) fun r53 => (some (!r53)))) fun c53 => (Option.bind (bif c53 then (some true) else (Option.bind (F_impl_within n x27.Delay 0 100000) fun r66 => (some (!r66)))) fun c66 => (Option.bind (bif c66 then (some true) else (Option.bind (F_impl_within n x27.Shift 0 100000) fun r79 => (some (!r79)))) fun c79 => (bif c79 then (some false) else (F_impl_IsLatchSystem_L2 n a0_s r16 k2 m (IntKind.wrap IntKind.i64 (i24 + 1))))))))) else (k2 i24)) := rfl

def F_impl_IsLatchSystem_L1 (a0_s : S_LatchSystem) (k0 : Int → Option Bool) : Nat → Int → Option Bool
  | 0 => fun _ => none
  | m + 1 => fun i14 => (bif decide (i14 < (a0_s.Latches.length : Int)) then (Option.bind (getI a0_s.Latches i14) fun x17 => (bif ((((decide (x17.Open < 0)) || (decide (x17.Open > x17.Close)))) || (decide (x17.Close > 100000))) then (some false) else (F_impl_IsLatchSystem_L1 a0_s k0 m (IntKind.wrap IntKind.i64 (i14 + 1))))) else (k0 i14))
theorem F_impl_IsLatchSystem_L1_z (a0_s : S_LatchSystem) (k0 : Int → Option Bool) (i14 : Int) : F_impl_IsLatchSystem_L1 a0_s k0 0 i14 = none := rfl
theorem F_impl_IsLatchSystem_L1_s (m : Nat) (a0_s : S_LatchSystem) (k0 : Int → Option Bool) (i14 : Int) : F_impl_IsLatchSystem_L1 a0_s k0 (m + 1) i14 = (bif decide (i14 < (a0_s.Latches.length : Int)) then (Option.bind (getI a0_s.Latches i14) fun x17 => (bif ((((decide (x17.Open < 0)) || (decide (x17.Open > x17.Close)))) || (decide (x17.Close > 100000))) then (some false) else (F_impl_IsLatchSystem_L1 a0_s k0 m (IntKind.wrap IntKind.i64 (i14 + 1))))) else (k0 i14)) := rfl

def F_impl_IsLatchSystem (n : Nat) (a0_s : S_LatchSystem) : Option Bool := (F_impl_IsLatchSystem_L1 a0_s (fun i14 => (Option.bind (F_impl_length_impl_Latch n a0_s.Latches) fun r16 => (F_impl_IsLatchSystem_L2 n a0_s r16 (fun i24 => (some (((decide (r16 ≤ 12)) && (decide ((a0_s.Links.length : Int) ≤ 60)))))) n 0))) n 0)
set_option maxHeartbeats 4000000 in
theorem W_impl_IsLatchSystem {n : Nat} {a0_s : S_LatchSystem} {r : Bool} {w : World} {v1 : Value} {v3 : Value} (hF : F_impl_IsLatchSystem n a0_s = some r) (ha2 : slRep C_Latch w (Iv 0 w.heap.size) a0_s.Latches v1) (ha4 : slRep C_LatchLink w (Iv 0 w.heap.size) a0_s.Links v3) :
    Calls Try.prog 21 [.agg #[v1, v3]].toArray w (Ret fun u w2 => u = .bool r ∧ Ext w w2) := by
  refine calls_of Try.func21 rfl Try.ntmps21 ?_
  have he0 : Ext w w := Ext.refl w
  unfold F_impl_IsLatchSystem at hF
  refine WC.seq ?_
  refine WC.region ?_
  refine TL.eff rfl rfl (eff_box rfl rfl) ?_
  rintro _ w6 ⟨b5, rfl, hn7⟩
  obtain ⟨hn7e, hn7s, hn7x, hb8⟩ := hn7
  have hb8 : Box w6 b5 [v1, v3] 38 := hb8
  have he10 : Ext w w6 := Ext.trans he0 hn7x
  have hz11 := (hn7x).size
  have hlo9 : w.heap.size ≤ b5 := by rw [hn7e]; exact (he0).size
  refine TL.yld rfl rfl (yld_assign rfl rfl) ?_
  refine TL.done ?_
  refine NX.seq ?_
  refine WC.seq ?_
  refine WC.seq ?_
  refine WC.region ?_
  refine TL.yld rfl rfl (yld_fieldAddr rfl fo_38_0 rfl) ?_
  refine TL.yld rfl rfl (yld_load1 0 rfl ag_35 rfl (Box.cells hb8) rfl rfl) ?_
  refine TL.yld rfl rfl (ye_len (c := C_Latch) rfl Try.underlying35 rfl (slRep.old ha2 he10 (Nat.le_refl _))) ?_
  refine TL.yld rfl rfl (yld_move rfl rfl) ?_
  refine TL.done ?_
  refine NX.seq ?_
  refine WC.block ?_
  refine WC.loop (fun m16 a wl => ∃ (i14 : Int), Kn 76 [(1, .pointer (some ⟨b5, 0, none⟩)), (9, v1), (10, .int .i64 ((a0_s.Latches.length : Int))), (11, .int .i64 i14)] a ∧ Ext w wl ∧ w6.heap.size ≤ wl.heap.size ∧ Box wl b5 [v1, v3] 38 ∧ F_impl_IsLatchSystem_L1 a0_s (fun i14 => (Option.bind (F_impl_length_impl_Latch n a0_s.Latches) fun r16 => (F_impl_IsLatchSystem_L2 n a0_s r16 (fun i24 => (some (((decide (r16 ≤ 12)) && (decide ((a0_s.Links.length : Int) ≤ 60)))))) n 0))) m16 i14 = some r) n ?_ ?_
  · intro a hK; exact ⟨0, hK.weaken ⟨rfl, rfl, rfl, rfl, trivial⟩, he10, Nat.le_refl _, hb8, hF⟩
  · rintro m16 a w12 ⟨i14, hK, he13, hz17, hb15, hF⟩
    revert hK; revert a; refine (?_ : WC _ _ _ _ _ _)
    cases m16 with
    | zero => rw [F_impl_IsLatchSystem_L1_z] at hF; cases hF
    | succ m16 =>
      rw [F_impl_IsLatchSystem_L1_s] at hF
      refine WC.seq ?_
      refine WC.region ?_
      refine TL.yld rfl rfl (yld_lss rfl rfl rfl) ?_
      refine TL.done ?_
      refine NX.seq ?_
      refine WC.seq ?_
      refine WC.cond rfl ?_ ?_
      · intro hc18
        replace hF := bif_t hc18 hF
        refine WC.skip' ?_
        refine NX.seq ?_
        refine WC.seq ?_
        refine WC.block ?_
        refine WC.seq ?_
        refine WC.region ?_
        obtain ⟨x19, hy20, hF⟩ := bsome hF
        refine TL.ye rfl rfl (ye_index (c := C_Latch) rfl Try.underlying35 cn_50 rfl rfl (slRep.old ha2 he13 (Nat.le_refl _)) hy20) ?_
        rintro _ ⟨b21, o22, us23, rfl, hib26, hr24, hcl25⟩
        have hib26 : 0 ≤ b21 ∧ b21 < w.heap.size := ⟨hib26.1, by have := hib26.2; omega⟩
        obtain rfl := C_Latch_open hr24
        refine TL.yld rfl rfl (yld_loadN (us := [.int .i64 x19.Open, .int .i64 x19.Close]) rfl ag_50 rfl hcl25 cn_50) ?_
        refine TL.eff rfl rfl (eff_alloc rfl zn_50) ?_
        rintro _ w28 ⟨b27, rfl, hn29⟩
        obtain ⟨hn29e, hn29s, hn29x, hb30⟩ := hn29
        have hb30 : Box w28 b27 [.int .i64 0, .int .i64 0] 50 := hb30
        have he32 : Ext w w28 := Ext.trans he13 hn29x
        have hb15 := Box.ext hb15 hn29x
        have hz33 := (hn29x).size
        have hlo31 : w.heap.size ≤ b27 := by rw [hn29e]; exact (he13).size
        refine TL.eff rfl rfl (eff_store rfl rfl rfl hb30 cn_50 rfl rfl) ?_
        rintro _ w34 ⟨hu35, hb36⟩
        have he37 : Ext w w34 := Below.trans he32 (Upd.below hu35 (by omega))
        have hb15 := Box.upd hb15 hu35 (by omega)
        have hz38 := (hu35).size
        have hb30 : Box w34 b27 [.int .i64 x19.Open, .int .i64 x19.Close] 50 := hb36
        refine TL.done ?_
        refine NX.seq ?_
        refine WC.seq ?_
        refine WC.region ?_
        refine TL.yld rfl rfl (yld_fieldAddr rfl fo_50_0 rfl) ?_
        refine TL.yld rfl rfl (yld_load1 0 rfl ag_2 rfl (Box.cells hb30) rfl rfl) ?_
        refine TL.yld rfl rfl (yld_lss rfl rfl rfl) ?_
        refine TL.yld rfl rfl (yld_move rfl rfl) ?_
        refine TL.cut 6 [(1, .pointer (some ⟨b5, 0, none⟩)), (4, .pointer (some ⟨b27, 0, none⟩)), (9, v1), (10, .int .i64 ((a0_s.Latches.length : Int))), (11, .int .i64 i14), (24, .bool (((decide (x19.Open < 0)) || (decide (x19.Open > x19.Close)))))] (fun w' => Ext w34 w') ?_ ?_
        · rcases Bool.eq_false_or_eq_true (decide (x19.Open < 0)) with hg39 | hg39
          ·
            refine TL.gnu (j := 3) (t := 18) rfl rfl rfl hg39 rfl ?_
            refine TL.gnu (j := 3) (t := 18) rfl rfl rfl hg39 rfl ?_
            refine TL.gnu (j := 3) (t := 18) rfl rfl rfl hg39 rfl ?_
            refine TL.gnu (j := 3) (t := 18) rfl rfl rfl hg39 rfl ?_
            refine TL.gnu (j := 3) (t := 18) rfl rfl rfl hg39 rfl ?_
            refine TL.yld rfl rfl (yld_or_t (b2 := decide (x19.Open > x19.Close)) rfl rfl hg39 rfl) ?_
            exact TL.nil fun a h => ⟨h.weaken ⟨rfl, rfl, rfl, rfl, rfl, rfl, trivial⟩, Ext.refl _⟩
          ·
            refine TL.gy (j := 3) (t := 18) rfl rfl rfl hg39 rfl (yld_fieldAddr rfl fo_50_0 rfl) ?_
            refine TL.gy (j := 3) (t := 18) rfl rfl rfl hg39 rfl (yld_load1 0 rfl ag_2 rfl (Box.cells hb30) rfl rfl) ?_
            refine TL.gy (j := 3) (t := 18) rfl rfl rfl hg39 rfl (yld_fieldAddr rfl fo_50_1 rfl) ?_
            refine TL.gy (j := 3) (t := 18) rfl rfl rfl hg39 rfl (yld_load1 1 rfl ag_2 rfl (Box.cells hb30) rfl rfl) ?_
            refine TL.gy (j := 3) (t := 18) rfl rfl rfl hg39 rfl (yld_gtr rfl rfl rfl) ?_
            refine TL.yld rfl rfl (yld_or_f rfl rfl hg39 rfl) ?_
            exact TL.nil fun a h => ⟨h.weaken ⟨rfl, rfl, rfl, rfl, rfl, rfl, trivial⟩, Ext.refl _⟩
        intro w40 hx41
        have he42 : Ext w w40 := Ext.trans he37 hx41
        have hb15 := Box.ext hb15 hx41
        have hb30 := Box.ext hb30 hx41
        have hz43 := (hx41).size
        refine TL.yld rfl rfl (yld_move rfl rfl) ?_
        refine TL.cut 4 [(1, .pointer (some ⟨b5, 0, none⟩)), (9, v1), (10, .int .i64 ((a0_s.Latches.length : Int))), (11, .int .i64 i14), (29, .bool (((((decide (x19.Open < 0)) || (decide (x19.Open > x19.Close)))) || (decide (x19.Close > 100000)))))] (fun w' => Ext w40 w') ?_ ?_
        · rcases Bool.eq_false_or_eq_true (((decide (x19.Open < 0)) || (decide (x19.Open > x19.Close)))) with hg44 | hg44
          ·
            refine TL.gnu (j := 10) (t := 25) rfl rfl rfl hg44 rfl ?_
            refine TL.gnu (j := 10) (t := 25) rfl rfl rfl hg44 rfl ?_
            refine TL.gnu (j := 10) (t := 25) rfl rfl rfl hg44 rfl ?_
            refine TL.yld rfl rfl (yld_or_t (b2 := decide (x19.Close > 100000)) rfl rfl hg44 rfl) ?_
            exact TL.nil fun a h => ⟨h.weaken ⟨rfl, rfl, rfl, rfl, rfl, trivial⟩, Ext.refl _⟩
          ·
            refine TL.gy (j := 10) (t := 25) rfl rfl rfl hg44 rfl (yld_fieldAddr rfl fo_50_1 rfl) ?_
            refine TL.gy (j := 10) (t := 25) rfl rfl rfl hg44 rfl (yld_load1 1 rfl ag_2 rfl (Box.cells hb30) rfl rfl) ?_
            refine TL.gy (j := 10) (t := 25) rfl rfl rfl hg44 rfl (yld_gtr rfl rfl rfl) ?_
            refine TL.yld rfl rfl (yld_or_f rfl rfl hg44 rfl) ?_
            exact TL.nil fun a h => ⟨h.weaken ⟨rfl, rfl, rfl, rfl, rfl, trivial⟩, Ext.refl _⟩
        intro w45 hx46
        have he47 : Ext w w45 := Ext.trans he42 hx46
        have hb15 := Box.ext hb15 hx46
        have hb30 := Box.ext hb30 hx46
        have hz48 := (hx46).size
        refine TL.done ?_
        refine NX.seq ?_
        refine WC.cond rfl ?_ ?_
        · intro hc49
          replace hF := bif_t hc49 hF
          refine WC.seq ?_
          refine WC.region ?_
          refine TL.yld rfl rfl (yld_assign rfl rfl) ?_
          refine TL.done ?_
          refine NX.seq ?_
          refine WC.ret' ?_
          refine NX.blk_r ?_
          refine NX.then_r ?_
          refine NX.then_r ?_
          refine NX.blk_r ?_
          refine NX.then_r ?_
          obtain rfl := Option.some.inj hF
          exact NX.end (rs := [.tmp 2]) (vs := [.bool false]) rfl ⟨rfl, trivial⟩ ⟨_, rfl, rfl, he47⟩
        · intro hc50
          replace hF := bif_f hc50 hF
          refine WC.skip' ?_
          refine NX.blk_n ?_
          refine NX.seq ?_
          refine WC.region ?_
          refine TL.yld rfl rfl (yld_add rfl rfl rfl) ?_
          refine TL.yld rfl rfl (yld_move rfl rfl) ?_
          refine TL.done ?_
          refine NX.then_n ?_
          intro a hK; exact ⟨m16, Nat.lt_succ_self m16, (IntKind.wrap IntKind.i64 (i14 + 1)), hK.weaken ⟨rfl, rfl, rfl, rfl, trivial⟩, he47, (by omega), hb15, hF⟩
      · intro hc51
        replace hF := bif_f hc51 hF
        refine WC.exit' ?_
        refine NX.then_e ?_
        refine NX.then_e ?_
        refine NX.blk_hit ?_
        refine NX.seq ?_
        refine WC.seq ?_
        refine WC.region ?_
        refine TL.yld rfl rfl (yld_fieldAddr rfl fo_38_0 rfl) ?_
        refine TL.yld rfl rfl (yld_load1 0 rfl ag_35 rfl (Box.cells hb15) rfl rfl) ?_
        obtain ⟨r52, hr53, hF⟩ := bsome hF
        refine TL.eff rfl rfl (eff_call rfl gf_60 rfl (W_impl_length_impl_Latch hr53 ((slRep.old ha2 he13 (Nat.le_refl _)).wide (Nat.le_refl _) (he13).size))) ?_
        rintro _ w54 ⟨rfl, hx55⟩
        have he56 : Ext w w54 := Ext.trans he13 hx55
        have hb15 := Box.ext hb15 hx55
        have hz57 := (hx55).size
        refine TL.yld rfl rfl (yld_assign rfl rfl) ?_
        refine TL.done ?_
        refine NX.seq ?_
        refine WC.seq ?_
        refine WC.seq ?_
        refine WC.region ?_
        refine TL.yld rfl rfl (yld_fieldAddr rfl fo_38_1 rfl) ?_
        refine TL.yld rfl rfl (yld_load1 1 rfl ag_36 rfl (Box.cells hb15) rfl rfl) ?_
        refine TL.yld rfl rfl (ye_len (c := C_LatchLink) rfl Try.underlying36 rfl (slRep.old ha4 he56 (Nat.le_refl _))) ?_
        refine TL.yld rfl rfl (yld_move rfl rfl) ?_
        refine TL.done ?_
        refine NX.seq ?_
        refine WC.block ?_
        refine WC.loop (fun m62 a wl => ∃ (i60 : Int), Kn 76 [(1, .pointer (some ⟨b5, 0, none⟩)), (5, .int .i64 r52), (35, v3), (36, .int .i64 ((a0_s.Links.length : Int))), (37, .int .i64 i60)] a ∧ Ext w wl ∧ w54.heap.size ≤ wl.heap.size ∧ Box wl b5 [v1, v3] 38 ∧ F_impl_IsLatchSystem_L2 n a0_s r52 (fun i60 => (some (((decide (r52 ≤ 12)) && (decide ((a0_s.Links.length : Int) ≤ 60)))))) m62 i60 = some r) n ?_ ?_
        · intro a hK; exact ⟨0, hK.weaken ⟨rfl, rfl, rfl, rfl, rfl, trivial⟩, he56, Nat.le_refl _, hb15, hF⟩
        · rintro m62 a w58 ⟨i60, hK, he59, hz63, hb61, hF⟩
          revert hK; revert a; refine (?_ : WC _ _ _ _ _ _)
          cases m62 with
          | zero => rw [F_impl_IsLatchSystem_L2_z] at hF; cases hF
          | succ m62 =>
            rw [F_impl_IsLatchSystem_L2_s] at hF
            refine WC.seq ?_
            refine WC.region ?_
            refine TL.yld rfl rfl (yld_lss rfl rfl rfl) ?_
            refine TL.done ?_
            refine NX.seq ?_
            refine WC.seq ?_
            refine WC.cond rfl ?_ ?_
            · intro hc64
              replace hF := bif_t hc64 hF
              refine WC.skip' ?_
              refine NX.seq ?_
              refine WC.seq ?_
              refine WC.block ?_
              refine WC.seq ?_
              refine WC.region ?_
              obtain ⟨x65, hy66, hF⟩ := bsome hF
              refine TL.ye rfl rfl (ye_index (c := C_LatchLink) rfl Try.underlying36 cn_77 rfl rfl (slRep.old ha4 he59 (Nat.le_refl _)) hy66) ?_
              rintro _ ⟨b67, o68, us69, rfl, hib72, hr70, hcl71⟩
              have hib72 : 0 ≤ b67 ∧ b67 < w.heap.size := ⟨hib72.1, by have := hib72.2; omega⟩
              obtain rfl := C_LatchLink_open hr70
              refine TL.yld rfl rfl (yld_loadN (us := [.int .i64 x65.From, .int .i64 x65.To, .int .i64 x65.Delay, .int .i64 x65.Shift]) rfl ag_77 rfl hcl71 cn_77) ?_
              refine TL.eff rfl rfl (eff_alloc rfl zn_77) ?_
              rintro _ w74 ⟨b73, rfl, hn75⟩
              obtain ⟨hn75e, hn75s, hn75x, hb76⟩ := hn75
              have hb76 : Box w74 b73 [.int .i64 0, .int .i64 0, .int .i64 0, .int .i64 0] 77 := hb76
              have he78 : Ext w w74 := Ext.trans he59 hn75x
              have hb61 := Box.ext hb61 hn75x
              have hz79 := (hn75x).size
              have hlo77 : w.heap.size ≤ b73 := by rw [hn75e]; exact (he59).size
              refine TL.eff rfl rfl (eff_store rfl rfl rfl hb76 cn_77 rfl rfl) ?_
              rintro _ w80 ⟨hu81, hb82⟩
              have he83 : Ext w w80 := Below.trans he78 (Upd.below hu81 (by omega))
              have hb61 := Box.upd hb61 hu81 (by omega)
              have hz84 := (hu81).size
              have hb76 : Box w80 b73 [.int .i64 x65.From, .int .i64 x65.To, .int .i64 x65.Delay, .int .i64 x65.Shift] 77 := hb82
              refine TL.done ?_
              refine NX.seq ?_
              refine WC.seq ?_
              refine WC.region ?_
              refine TL.yld rfl rfl (yld_fieldAddr rfl fo_77_0 rfl) ?_
              refine TL.yld rfl rfl (yld_load1 0 rfl ag_2 rfl (Box.cells hb76) rfl rfl) ?_
              refine TL.yld rfl rfl (yld_move rfl rfl) ?_
              refine TL.yld rfl rfl (yld_sub rfl rfl rfl) ?_
              obtain ⟨r85, hr86, hF⟩ := bsome hF
              refine TL.eff rfl rfl (eff_call rfl gf_61 rfl (W_impl_within hr86)) ?_
              rintro _ w87 ⟨rfl, hx88⟩
              have he89 : Ext w w87 := Ext.trans he83 hx88
              have hb61 := Box.ext hb61 hx88
              have hb76 := Box.ext hb76 hx88
              have hz90 := (hx88).size
              refine TL.yld rfl rfl (yld_not rfl rfl) ?_
              refine TL.yld rfl rfl (yld_move rfl rfl) ?_
              obtain ⟨c91, hb92, hF⟩ := bsome hF
              refine TL.cut 7 [(1, .pointer (some ⟨b5, 0, none⟩)), (5, .int .i64 r52), (7, .pointer (some ⟨b73, 0, none⟩)), (35, v3), (36, .int .i64 ((a0_s.Links.length : Int))), (37, .int .i64 i60), (54, .bool c91)] (fun w' => Ext w87 w') ?_ ?_
              · rcases Bool.eq_false_or_eq_true (!r85) with hg93 | hg93
                ·
                  rw [hg93] at hb92; simp only [cond_true, cond_false] at hb92
                  refine TL.gnu (j := 6) (t := 47) rfl rfl rfl hg93 rfl ?_
                  refine TL.gnu (j := 6) (t := 47) rfl rfl rfl hg93 rfl ?_
                  refine TL.gnu (j := 6) (t := 47) rfl rfl rfl hg93 rfl ?_
                  refine TL.gnu (j := 6) (t := 47) rfl rfl rfl hg93 rfl ?_
                  refine TL.gnu (j := 6) (t := 47) rfl rfl rfl hg93 rfl ?_
                  refine TL.gnu (j := 6) (t := 47) rfl rfl rfl hg93 rfl ?_
                  obtain rfl := Option.some.inj hb92
                  refine TL.yld rfl rfl (yld_pick_t rfl rfl hg93 rfl) ?_
                  exact TL.nil fun a h => ⟨h.weaken ⟨rfl, rfl, rfl, rfl, rfl, rfl, rfl, trivial⟩, Ext.refl _⟩
                ·
                  rw [hg93] at hb92; simp only [cond_true, cond_false] at hb92
                  replace hF := hb92
                  refine TL.gy (j := 6) (t := 47) rfl rfl rfl hg93 rfl (yld_fieldAddr rfl fo_77_1 rfl) ?_
                  refine TL.gy (j := 6) (t := 47) rfl rfl rfl hg93 rfl (yld_load1 1 rfl ag_2 rfl (Box.cells hb76) rfl rfl) ?_
                  refine TL.gy (j := 6) (t := 47) rfl rfl rfl hg93 rfl (yld_move rfl rfl) ?_
                  refine TL.gy (j := 6) (t := 47) rfl rfl rfl hg93 rfl (yld_sub rfl rfl rfl) ?_
                  obtain ⟨r94, hr95, hF⟩ := bsome hF
                  refine TL.ge (j := 6) (t := 47) rfl rfl rfl hg93 rfl (eff_call rfl gf_61 rfl (W_impl_within hr95)) ?_
                  rintro _ w96 ⟨rfl, hx97⟩
                  have he98 : Ext w w96 := Ext.trans he89 hx97
                  have hb61 := Box.ext hb61 hx97
                  have hb76 := Box.ext hb76 hx97
                  have hz99 := (hx97).size
                  refine TL.gy (j := 6) (t := 47) rfl rfl rfl hg93 rfl (yld_not rfl rfl) ?_
                  obtain rfl := Option.some.inj hF
                  refine TL.yld rfl rfl (yld_pick_f rfl rfl hg93 rfl) ?_
                  exact TL.nil fun a h => ⟨h.weaken ⟨rfl, rfl, rfl, rfl, rfl, rfl, rfl, trivial⟩, hx97⟩
              intro w100 hx101
              have he102 : Ext w w100 := Ext.trans he89 hx101
              have hb61 := Box.ext hb61 hx101
              have hb76 := Box.ext hb76 hx101
              have hz103 := (hx101).size
              refine TL.yld rfl rfl (yld_move rfl rfl) ?_
              obtain ⟨c104, hb105, hF⟩ := bsome hF
              refine TL.cut 5 [(1, .pointer (some ⟨b5, 0, none⟩)), (5, .int .i64 r52), (7, .pointer (some ⟨b73, 0, none⟩)), (35, v3), (36, .int .i64 ((a0_s.Links.length : Int))), (37, .int .i64 i60), (60, .bool c104)] (fun w' => Ext w100 w') ?_ ?_
              · rcases Bool.eq_false_or_eq_true c91 with hg106 | hg106
                ·
                  rw [hg106] at hb105; simp only [cond_true, cond_false] at hb105
                  refine TL.gnu (j := 14) (t := 55) rfl rfl rfl hg106 rfl ?_
                  refine TL.gnu (j := 14) (t := 55) rfl rfl rfl hg106 rfl ?_
                  refine TL.gnu (j := 14) (t := 55) rfl rfl rfl hg106 rfl ?_
                  refine TL.gnu (j := 14) (t := 55) rfl rfl rfl hg106 rfl ?_
                  obtain rfl := Option.some.inj hb105
                  refine TL.yld rfl rfl (yld_pick_t rfl rfl hg106 rfl) ?_
                  exact TL.nil fun a h => ⟨h.weaken ⟨rfl, rfl, rfl, rfl, rfl, rfl, rfl, trivial⟩, Ext.refl _⟩
                ·
                  rw [hg106] at hb105; simp only [cond_true, cond_false] at hb105
                  replace hF := hb105
                  refine TL.gy (j := 14) (t := 55) rfl rfl rfl hg106 rfl (yld_fieldAddr rfl fo_77_2 rfl) ?_
                  refine TL.gy (j := 14) (t := 55) rfl rfl rfl hg106 rfl (yld_load1 2 rfl ag_2 rfl (Box.cells hb76) rfl rfl) ?_
                  obtain ⟨r107, hr108, hF⟩ := bsome hF
                  refine TL.ge (j := 14) (t := 55) rfl rfl rfl hg106 rfl (eff_call rfl gf_61 rfl (W_impl_within hr108)) ?_
                  rintro _ w109 ⟨rfl, hx110⟩
                  have he111 : Ext w w109 := Ext.trans he102 hx110
                  have hb61 := Box.ext hb61 hx110
                  have hb76 := Box.ext hb76 hx110
                  have hz112 := (hx110).size
                  refine TL.gy (j := 14) (t := 55) rfl rfl rfl hg106 rfl (yld_not rfl rfl) ?_
                  obtain rfl := Option.some.inj hF
                  refine TL.yld rfl rfl (yld_pick_f rfl rfl hg106 rfl) ?_
                  exact TL.nil fun a h => ⟨h.weaken ⟨rfl, rfl, rfl, rfl, rfl, rfl, rfl, trivial⟩, hx110⟩
              intro w113 hx114
              have he115 : Ext w w113 := Ext.trans he102 hx114
              have hb61 := Box.ext hb61 hx114
              have hb76 := Box.ext hb76 hx114
              have hz116 := (hx114).size
              refine TL.yld rfl rfl (yld_move rfl rfl) ?_
              obtain ⟨c117, hb118, hF⟩ := bsome hF
              refine TL.cut 5 [(1, .pointer (some ⟨b5, 0, none⟩)), (5, .int .i64 r52), (35, v3), (36, .int .i64 ((a0_s.Links.length : Int))), (37, .int .i64 i60), (66, .bool c117)] (fun w' => Ext w113 w') ?_ ?_
              · rcases Bool.eq_false_or_eq_true c104 with hg119 | hg119
                ·
                  rw [hg119] at hb118; simp only [cond_true, cond_false] at hb118
                  refine TL.gnu (j := 20) (t := 61) rfl rfl rfl hg119 rfl ?_
                  refine TL.gnu (j := 20) (t := 61) rfl rfl rfl hg119 rfl ?_
                  refine TL.gnu (j := 20) (t := 61) rfl rfl rfl hg119 rfl ?_
                  refine TL.gnu (j := 20) (t := 61) rfl rfl rfl hg119 rfl ?_
                  obtain rfl := Option.some.inj hb118
                  refine TL.yld rfl rfl (yld_pick_t rfl rfl hg119 rfl) ?_
                  exact TL.nil fun a h => ⟨h.weaken ⟨rfl, rfl, rfl, rfl, rfl, rfl, trivial⟩, Ext.refl _⟩
                ·
                  rw [hg119] at hb118; simp only [cond_true, cond_false] at hb118
                  replace hF := hb118
                  refine TL.gy (j := 20) (t := 61) rfl rfl rfl hg119 rfl (yld_fieldAddr rfl fo_77_3 rfl) ?_
                  refine TL.gy (j := 20) (t := 61) rfl rfl rfl hg119 rfl (yld_load1 3 rfl ag_2 rfl (Box.cells hb76) rfl rfl) ?_
                  obtain ⟨r120, hr121, hF⟩ := bsome hF
                  refine TL.ge (j := 20) (t := 61) rfl rfl rfl hg119 rfl (eff_call rfl gf_61 rfl (W_impl_within hr121)) ?_
                  rintro _ w122 ⟨rfl, hx123⟩
                  have he124 : Ext w w122 := Ext.trans he115 hx123
                  have hb61 := Box.ext hb61 hx123
                  have hb76 := Box.ext hb76 hx123
                  have hz125 := (hx123).size
                  refine TL.gy (j := 20) (t := 61) rfl rfl rfl hg119 rfl (yld_not rfl rfl) ?_
                  obtain rfl := Option.some.inj hF
                  refine TL.yld rfl rfl (yld_pick_f rfl rfl hg119 rfl) ?_
                  exact TL.nil fun a h => ⟨h.weaken ⟨rfl, rfl, rfl, rfl, rfl, rfl, trivial⟩, hx123⟩
              intro w126 hx127
              have he128 : Ext w w126 := Ext.trans he115 hx127
              have hb61 := Box.ext hb61 hx127
              have hb76 := Box.ext hb76 hx127
              have hz129 := (hx127).size
              refine TL.done ?_
              refine NX.seq ?_
              refine WC.cond rfl ?_ ?_
              · intro hc130
                replace hF := bif_t hc130 hF
                refine WC.seq ?_
                refine WC.region ?_
                refine TL.yld rfl rfl (yld_assign rfl rfl) ?_
                refine TL.done ?_
                refine NX.seq ?_
                refine WC.ret' ?_
                refine NX.blk_r ?_
                refine NX.then_r ?_
                refine NX.then_r ?_
                refine NX.blk_r ?_
                refine NX.then_r ?_
                obtain rfl := Option.some.inj hF
                exact NX.end (rs := [.tmp 2]) (vs := [.bool false]) rfl ⟨rfl, trivial⟩ ⟨_, rfl, rfl, he128⟩
              · intro hc131
                replace hF := bif_f hc131 hF
                refine WC.skip' ?_
                refine NX.blk_n ?_
                refine NX.seq ?_
                refine WC.region ?_
                refine TL.yld rfl rfl (yld_add rfl rfl rfl) ?_
                refine TL.yld rfl rfl (yld_move rfl rfl) ?_
                refine TL.done ?_
                refine NX.then_n ?_
                intro a hK; exact ⟨m62, Nat.lt_succ_self m62, (IntKind.wrap IntKind.i64 (i60 + 1)), hK.weaken ⟨rfl, rfl, rfl, rfl, rfl, trivial⟩, he128, (by omega), hb61, hF⟩
            · intro hc132
              replace hF := bif_f hc132 hF
              refine WC.exit' ?_
              refine NX.then_e ?_
              refine NX.then_e ?_
              refine NX.blk_hit ?_
              refine NX.seq ?_
              refine WC.seq ?_
              refine WC.region ?_
              refine TL.yld rfl rfl (yld_move rfl rfl) ?_
              refine TL.yld rfl rfl (yld_leq rfl rfl rfl) ?_
              refine TL.yld rfl rfl (yld_move rfl rfl) ?_
              refine TL.cut 5 [(75, .bool (((decide (r52 ≤ 12)) && (decide ((a0_s.Links.length : Int) ≤ 60)))))] (fun w' => Ext w58 w') ?_ ?_
              · rcases Bool.eq_false_or_eq_true (decide (r52 ≤ 12)) with hg133 | hg133
                ·
                  refine TL.gy (j := 2) (t := 70) rfl rfl rfl hg133 rfl (yld_fieldAddr rfl fo_38_1 rfl) ?_
                  refine TL.gy (j := 2) (t := 70) rfl rfl rfl hg133 rfl (yld_load1 1 rfl ag_36 rfl (Box.cells hb61) rfl rfl) ?_
                  refine TL.gy (j := 2) (t := 70) rfl rfl rfl hg133 rfl (ye_len (c := C_LatchLink) rfl Try.underlying36 rfl (slRep.old ha4 he59 (Nat.le_refl _))) ?_
                  refine TL.gy (j := 2) (t := 70) rfl rfl rfl hg133 rfl (yld_leq rfl rfl rfl) ?_
                  refine TL.yld rfl rfl (yld_and_t rfl rfl hg133 rfl) ?_
                  exact TL.nil fun a h => ⟨h.weaken ⟨rfl, trivial⟩, Ext.refl _⟩
                ·
                  refine TL.gnu (j := 2) (t := 70) rfl rfl rfl hg133 rfl ?_
                  refine TL.gnu (j := 2) (t := 70) rfl rfl rfl hg133 rfl ?_
                  refine TL.gnu (j := 2) (t := 70) rfl rfl rfl hg133 rfl ?_
                  refine TL.gnu (j := 2) (t := 70) rfl rfl rfl hg133 rfl ?_
                  refine TL.yld rfl rfl (yld_and_f (b2 := decide ((a0_s.Links.length : Int) ≤ 60)) rfl rfl hg133 rfl) ?_
                  exact TL.nil fun a h => ⟨h.weaken ⟨rfl, trivial⟩, Ext.refl _⟩
              intro w134 hx135
              have he136 : Ext w w134 := Ext.trans he59 hx135
              have hb61 := Box.ext hb61 hx135
              have hz137 := (hx135).size
              refine TL.yld rfl rfl (yld_assign rfl rfl) ?_
              refine TL.done ?_
              refine NX.seq ?_
              refine WC.ret' ?_
              obtain rfl := Option.some.inj hF
              exact NX.end (rs := [.tmp 2]) (vs := [.bool (((decide (r52 ≤ 12)) && (decide ((a0_s.Links.length : Int) ≤ 60))))]) rfl ⟨rfl, trivial⟩ ⟨_, rfl, rfl, he136⟩

-- (loop.example/g00861/impl.LatchSystem).room
def F_impl_LatchSystem_room_L1 (a0_s : S_LatchSystem) (k0 : Int → Int → Option Int) : Nat → Int → Int → Option Int
  | 0 => fun _ _ => none
  | m + 1 => fun i14 i15 => (bif decide (i15 < (a0_s.Links.length : Int)) then (Option.bind (getI a0_s.Links i15) fun x17 => (F_impl_LatchSystem_room_L1 a0_s k0 m (min i14 (IntKind.wrap IntKind.i64 (100000 - x17.Shift))) (IntKind.wrap IntKind.i64 (i15 + 1)))) else (k0 i14 i15))
theorem F_impl_LatchSystem_room_L1_z (a0_s : S_LatchSystem) (k0 : Int → Int → Option Int) (i14 : Int) (i15 : Int) : F_impl_LatchSystem_room_L1 a0_s k0 0 i14 i15 = none := rfl
theorem F_impl_LatchSystem_room_L1_s (m : Nat) (a0_s : S_LatchSystem) (k0 : Int → Int → Option Int) (i14 : Int) (i15 : Int) : F_impl_LatchSystem_room_L1 a0_s k0 (m + 1) i14 i15 = (bif decide (i15 < (a0_s.Links.length : Int)) then (Option.bind (getI a0_s.Links i15) fun x17 => (F_impl_LatchSystem_room_L1 a0_s k0 m (min i14 (IntKind.wrap IntKind.i64 (100000 - x17.Shift))) (IntKind.wrap IntKind.i64 (i15 + 1)))) else (k0 i14 i15)) := rfl

def F_impl_LatchSystem_room (n : Nat) (a0_s : S_LatchSystem) : Option Int := (F_impl_LatchSystem_room_L1 a0_s (fun i14 i15 => (some i14)) n 100000 0)
set_option maxHeartbeats 4000000 in
theorem W_impl_LatchSystem_room {n : Nat} {a0_s : S_LatchSystem} {r : Int} {w : World} {v1 : Value} {v3 : Value} (hF : F_impl_LatchSystem_room n a0_s = some r) (ha2 : slRep C_Latch w (Iv 0 w.heap.size) a0_s.Latches v1) (ha4 : slRep C_LatchLink w (Iv 0 w.heap.size) a0_s.Links v3) :
    Calls Try.prog 81 [.agg #[v1, v3]].toArray w (Ret fun u w2 => u = .int .i64 r ∧ Ext w w2) := by
  refine calls_of Try.func81 rfl Try.ntmps81 ?_
  have he0 : Ext w w := Ext.refl w
  unfold F_impl_LatchSystem_room at hF
  refine WC.seq ?_
  refine WC.region ?_
  refine TL.eff rfl rfl (eff_box rfl rfl) ?_
  rintro _ w6 ⟨b5, rfl, hn7⟩
  obtain ⟨hn7e, hn7s, hn7x, hb8⟩ := hn7
  have hb8 : Box w6 b5 [v1, v3] 38 := hb8
  have he10 : Ext w w6 := Ext.trans he0 hn7x
  have hz11 := (hn7x).size
  have hlo9 : w.heap.size ≤ b5 := by rw [hn7e]; exact (he0).size
  refine TL.yld rfl rfl (yld_assign rfl rfl) ?_
  refine TL.done ?_
  refine NX.seq ?_
  refine WC.seq ?_
  refine WC.region ?_
  refine TL.yld rfl rfl (yld_assign rfl rfl) ?_
  refine TL.done ?_
  refine NX.seq ?_
  refine WC.seq ?_
  refine WC.seq ?_
  refine WC.region ?_
  refine TL.yld rfl rfl (yld_fieldAddr rfl fo_38_1 rfl) ?_
  refine TL.yld rfl rfl (yld_load1 1 rfl ag_36 rfl (Box.cells hb8) rfl rfl) ?_
  refine TL.yld rfl rfl (ye_len (c := C_LatchLink) rfl Try.underlying36 rfl (slRep.old ha4 he10 (Nat.le_refl _))) ?_
  refine TL.yld rfl rfl (yld_move rfl rfl) ?_
  refine TL.done ?_
  refine NX.seq ?_
  refine WC.block ?_
  refine WC.loop (fun m16 a wl => ∃ (i14 : Int) (i15 : Int), Kn 20 [(3, .int .i64 i14), (7, v3), (8, .int .i64 ((a0_s.Links.length : Int))), (9, .int .i64 i15)] a ∧ Ext w wl ∧ w6.heap.size ≤ wl.heap.size ∧ F_impl_LatchSystem_room_L1 a0_s (fun i14 i15 => (some i14)) m16 i14 i15 = some r) n ?_ ?_
  · intro a hK; exact ⟨100000, 0, hK.weaken ⟨rfl, rfl, rfl, rfl, trivial⟩, he10, Nat.le_refl _, hF⟩
  · rintro m16 a w12 ⟨i14, i15, hK, he13, hz17, hF⟩
    revert hK; revert a; refine (?_ : WC _ _ _ _ _ _)
    cases m16 with
    | zero => rw [F_impl_LatchSystem_room_L1_z] at hF; cases hF
    | succ m16 =>
      rw [F_impl_LatchSystem_room_L1_s] at hF
      refine WC.seq ?_
      refine WC.region ?_
      refine TL.yld rfl rfl (yld_lss rfl rfl rfl) ?_
      refine TL.done ?_
      refine NX.seq ?_
      refine WC.seq ?_
      refine WC.cond rfl ?_ ?_
      · intro hc18
        replace hF := bif_t hc18 hF
        refine WC.skip' ?_
        refine NX.seq ?_
        refine WC.seq ?_
        refine WC.block ?_
        refine WC.seq ?_
        refine WC.region ?_
        obtain ⟨x19, hy20, hF⟩ := bsome hF
        refine TL.ye rfl rfl (ye_index (c := C_LatchLink) rfl Try.underlying36 cn_77 rfl rfl (slRep.old ha4 he13 (Nat.le_refl _)) hy20) ?_
        rintro _ ⟨b21, o22, us23, rfl, hib26, hr24, hcl25⟩
        have hib26 : 0 ≤ b21 ∧ b21 < w.heap.size := ⟨hib26.1, by have := hib26.2; omega⟩
        obtain rfl := C_LatchLink_open hr24
        refine TL.yld rfl rfl (yld_loadN (us := [.int .i64 x19.From, .int .i64 x19.To, .int .i64 x19.Delay, .int .i64 x19.Shift]) rfl ag_77 rfl hcl25 cn_77) ?_
        refine TL.eff rfl rfl (eff_alloc rfl zn_77) ?_
        rintro _ w28 ⟨b27, rfl, hn29⟩
        obtain ⟨hn29e, hn29s, hn29x, hb30⟩ := hn29
        have hb30 : Box w28 b27 [.int .i64 0, .int .i64 0, .int .i64 0, .int .i64 0] 77 := hb30
        have he32 : Ext w w28 := Ext.trans he13 hn29x
        have hz33 := (hn29x).size
        have hlo31 : w.heap.size ≤ b27 := by rw [hn29e]; exact (he13).size
        refine TL.eff rfl rfl (eff_store rfl rfl rfl hb30 cn_77 rfl rfl) ?_
        rintro _ w34 ⟨hu35, hb36⟩
        have he37 : Ext w w34 := Below.trans he32 (Upd.below hu35 (by omega))
        have hz38 := (hu35).size
        have hb30 : Box w34 b27 [.int .i64 x19.From, .int .i64 x19.To, .int .i64 x19.Delay, .int .i64 x19.Shift] 77 := hb36
        refine TL.done ?_
        refine NX.seq ?_
        refine WC.region ?_
        refine TL.yld rfl rfl (yld_move rfl rfl) ?_
        refine TL.yld rfl rfl (yld_fieldAddr rfl fo_77_3 rfl) ?_
        refine TL.yld rfl rfl (yld_load1 3 rfl ag_2 rfl (Box.cells hb30) rfl rfl) ?_
        refine TL.yld rfl rfl (yld_sub rfl rfl rfl) ?_
        refine TL.yld rfl rfl (yld_min2 rfl rfl rfl) ?_
        refine TL.yld rfl rfl (yld_assign rfl rfl) ?_
        refine TL.done ?_
        refine NX.blk_n ?_
        refine NX.seq ?_
        refine WC.region ?_
        refine TL.yld rfl rfl (yld_add rfl rfl rfl) ?_
        refine TL.yld rfl rfl (yld_move rfl rfl) ?_
        refine TL.done ?_
        refine NX.then_n ?_
        intro a hK; exact ⟨m16, Nat.lt_succ_self m16, (min i14 (IntKind.wrap IntKind.i64 (100000 - x19.Shift))), (IntKind.wrap IntKind.i64 (i15 + 1)), hK.weaken ⟨rfl, rfl, rfl, rfl, trivial⟩, he37, (by omega), hF⟩
      · intro hc39
        replace hF := bif_f hc39 hF
        refine WC.exit' ?_
        refine NX.then_e ?_
        refine NX.then_e ?_
        refine NX.blk_hit ?_
        refine NX.seq ?_
        refine WC.seq ?_
        refine WC.region ?_
        refine TL.yld rfl rfl (yld_move rfl rfl) ?_
        refine TL.yld rfl rfl (yld_assign rfl rfl) ?_
        refine TL.done ?_
        refine NX.seq ?_
        refine WC.ret' ?_
        obtain rfl := Option.some.inj hF
        exact NX.end (rs := [.tmp 2]) (vs := [.int .i64 i14]) rfl ⟨rfl, trivial⟩ ⟨_, rfl, rfl, he13⟩

-- slices.Clone[[]loop.example/g00861/impl.Latch,loop.example/g00861/impl.Latch]
def F_slices_Clone_impl_Latch_impl_Latch (n : Nat) (a0_s : List S_Latch) : Option (List S_Latch) := (Option.bind (appN (([] : List S_Latch)) a0_s 16) fun z16 => (some z16))
set_option maxHeartbeats 4000000 in
theorem W_slices_Clone_impl_Latch_impl_Latch {n : Nat} {a0_s : List S_Latch} {r : List S_Latch} {w : World} {v1 : Value} (hF : F_slices_Clone_impl_Latch_impl_Latch n a0_s = some r) (ha2 : slRep C_Latch w (Iv 0 w.heap.size) a0_s v1) :
    Calls Try.prog 102 [v1].toArray w (Ret fun u w2 => ∃ v0_0, u = v0_0 ∧ ownR C_Latch w2 w.heap.size (Iv 0 0) 50 r v0_0 ∧ Ext w w2) := by
  refine calls_of Try.func102 rfl Try.ntmps102 ?_
  have he0 : Ext w w := Ext.refl w
  unfold F_slices_Clone_impl_Latch_impl_Latch at hF
  refine WC.seq ?_
  refine WC.region ?_
  refine TL.yld rfl rfl (yld_assign rfl rfl) ?_
  refine TL.done ?_
  refine NX.seq ?_
  refine WC.seq ?_
  refine WC.seq ?_
  refine WC.region ?_
  refine TL.yld rfl rfl (yld_move rfl rfl) ?_
  rcases slRep.nil_or (slRep.old ha2 he0 (Nat.le_refl _)) with ⟨rfl, hnil⟩ | ⟨p_, n_, c_, rfl⟩
  ·
    replace hF : (some (([] : List S_Latch))) = some r := by simpa [hnil, appN] using hF
    refine TL.yld rfl rfl (yld_eqnil_t rfl Try.underlying35 rfl rfl) ?_
    refine TL.done ?_
    refine NX.seq ?_
    refine WC.cond_t rfl ?_
    refine WC.seq ?_
    refine WC.region ?_
    refine TL.yld rfl rfl (yld_assign rfl rfl) ?_
    refine TL.done ?_
    refine NX.seq ?_
    refine WC.ret' ?_
    refine NX.then_r ?_
    obtain rfl := Option.some.inj hF
    exact NX.end (rs := [.tmp 2]) (vs := [.slice none 0 0]) rfl ⟨rfl, trivial⟩ ⟨_, rfl, _, rfl, ownR.nil _ _ _ _ _, he0⟩
  ·
    refine TL.yld rfl rfl (yld_eqnil_f rfl Try.underlying35 rfl rfl) ?_
    refine TL.done ?_
    refine NX.seq ?_
    refine WC.cond_f rfl ?_
    refine WC.skip' ?_
    refine NX.seq ?_
    refine WC.seq ?_
    refine WC.region ?_
    refine TL.eff rfl rfl (eff_buildSlice (c := C_Latch) (xs := ([] : List S_Latch)) (S := (Iv 0 0)) (uss := []) (out := []) rfl Try.underlying35 in_50 rfl rfl (fillL_all [] rfl rfl rfl) rfl rfl rfl rfl (one_rep (uss := []) (show reps _ _ _ _ _ from trivial) rfl) (fun k h => by have := h.2; omega) rfl) ?_
    rintro v3 w4 ⟨g5, hv6, hg7, hz8, hx9, hs10⟩
    have he11 : Ext w w4 := Ext.trans he0 hx9
    have hz12 := (hx9).size
    have hlo13 : w.heap.size ≤ g5 := by rw [hg7]; exact (he0).size
    have hbd14 := bd_of hv6
    clear hv6
    refine TL.yld rfl rfl (yld_move rfl rfl) ?_
    obtain ⟨z16, ha17, hF⟩ := bsome hF
    refine TL.eff rfl rfl (eff_appendF (c := C_Latch) rfl Try.underlying35 in_50 rfl rfl rfl rfl rfl hs10 (by omega) (slRep.old ha2 he11 (Nat.le_refl _)) ha17) ?_
    rintro v18 w19 ⟨hs20, hgr21⟩
    have he23 : Ext w w19 := Below.trans he11 (Grew.low hgr21 (fun g hg => by have := hbd14 g hg; omega) (he11).size)
    have hz24 := (hgr21).1.size
    have hbd25 : ∀ g, v18.ownBlock = some g → g5 ≤ g ∧ g < w19.heap.size := Grew.bd hgr21 hs20 (fun g hg => ⟨by have := hbd14 g hg; omega, (hbd14 g hg).2⟩) (by omega) (by omega)
    refine TL.yld rfl rfl (yld_assign rfl rfl) ?_
    refine TL.done ?_
    refine NX.seq ?_
    refine WC.ret' ?_
    obtain rfl := Option.some.inj hF
    exact NX.end (rs := [.tmp 2]) (vs := [v18]) rfl ⟨rfl, trivial⟩ ⟨_, rfl, _, rfl, ownR.base hs20 (by omega), he23⟩

-- slices.Clone[[]loop.example/g00861/impl.LatchLink,loop.example/g00861/impl.LatchLink]
def F_slices_Clone_impl_LatchLink_impl_LatchLink (n : Nat) (a0_s : List S_LatchLink) : Option (List S_LatchLink) := (Option.bind (appN (([] : List S_LatchLink)) a0_s 32) fun z16 => (some z16))
set_option maxHeartbeats 4000000 in
theorem W_slices_Clone_impl_LatchLink_impl_LatchLink {n : Nat} {a0_s : List S_LatchLink} {r : List S_LatchLink} {w : World} {v1 : Value} (hF : F_slices_Clone_impl_LatchLink_impl_LatchLink n a0_s = some r) (ha2 : slRep C_LatchLink w (Iv 0 w.heap.size) a0_s v1) :
    Calls Try.prog 103 [v1].toArray w (Ret fun u w2 => ∃ v0_0, u = v0_0 ∧ ownR C_LatchLink w2 w.heap.size (Iv 0 0) 77 r v0_0 ∧ Ext w w2) := by
  refine calls_of Try.func103 rfl Try.ntmps103 ?_
  have he0 : Ext w w := Ext.refl w
  unfold F_slices_Clone_impl_LatchLink_impl_LatchLink at hF
  refine WC.seq ?_
  refine WC.region ?_
  refine TL.yld rfl rfl (yld_assign rfl rfl) ?_
  refine TL.done ?_
  refine NX.seq ?_
  refine WC.seq ?_
  refine WC.seq ?_
  refine WC.region ?_
  refine TL.yld rfl rfl (yld_move rfl rfl) ?_
  rcases slRep.nil_or (slRep.old ha2 he0 (Nat.le_refl _)) with ⟨rfl, hnil⟩ | ⟨p_, n_, c_, rfl⟩
  ·
    replace hF : (some (([] : List S_LatchLink))) = some r := by simpa [hnil, appN] using hF
    refine TL.yld rfl rfl (yld_eqnil_t rfl Try.underlying36 rfl rfl) ?_
    refine TL.done ?_
    refine NX.seq ?_
    refine WC.cond_t rfl ?_
    refine WC.seq ?_
    refine WC.region ?_
    refine TL.yld rfl rfl (yld_assign rfl rfl) ?_
    refine TL.done ?_
    refine NX.seq ?_
    refine WC.ret' ?_
    refine NX.then_r ?_
    obtain rfl := Option.some.inj hF
    exact NX.end (rs := [.tmp 2]) (vs := [.slice none 0 0]) rfl ⟨rfl, trivial⟩ ⟨_, rfl, _, rfl, ownR.nil _ _ _ _ _, he0⟩
  ·
    refine TL.yld rfl rfl (yld_eqnil_f rfl Try.underlying36 rfl rfl) ?_
    refine TL.done ?_
    refine NX.seq ?_
    refine WC.cond_f rfl ?_
    refine WC.skip' ?_
    refine NX.seq ?_
    refine WC.seq ?_
    refine WC.region ?_
    refine TL.eff rfl rfl (eff_buildSlice (c := C_LatchLink) (xs := ([] : List S_LatchLink)) (S := (Iv 0 0)) (uss := []) (out := []) rfl Try.underlying36 in_77 rfl rfl (fillL_all [] rfl rfl rfl) rfl rfl rfl rfl (one_rep (uss := []) (show reps _ _ _ _ _ from trivial) rfl) (fun k h => by have := h.2; omega) rfl) ?_
    rintro v3 w4 ⟨g5, hv6, hg7, hz8, hx9, hs10⟩
    have he11 : Ext w w4 := Ext.trans he0 hx9
    have hz12 := (hx9).size
    have hlo13 : w.heap.size ≤ g5 := by rw [hg7]; exact (he0).size
    have hbd14 := bd_of hv6
    clear hv6
    refine TL.yld rfl rfl (yld_move rfl rfl) ?_
    obtain ⟨z16, ha17, hF⟩ := bsome hF
    refine TL.eff rfl rfl (eff_appendF (c := C_LatchLink) rfl Try.underlying36 in_77 rfl rfl rfl rfl rfl hs10 (by omega) (slRep.old ha2 he11 (Nat.le_refl _)) ha17) ?_
    rintro v18 w19 ⟨hs20, hgr21⟩
    have he23 : Ext w w19 := Below.trans he11 (Grew.low hgr21 (fun g hg => by have := hbd14 g hg; omega) (he11).size)
    have hz24 := (hgr21).1.size
    have hbd25 : ∀ g, v18.ownBlock = some g → g5 ≤ g ∧ g < w19.heap.size := Grew.bd hgr21 hs20 (fun g hg => ⟨by have := hbd14 g hg; omega, (hbd14 g hg).2⟩) (by omega) (by omega)
    refine TL.yld rfl rfl (yld_assign rfl rfl) ?_
    refine TL.done ?_
    refine NX.seq ?_
    refine WC.ret' ?_
    obtain rfl := Option.some.inj hF
    exact NX.end (rs := [.tmp 2]) (vs := [v18]) rfl ⟨rfl, trivial⟩ ⟨_, rfl, _, rfl, ownR.base hs20 (by omega), he23⟩

end Go.Proofs.Ytmhmpfckdhiijaa
