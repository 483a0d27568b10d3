/- The walks: every function that FnExactLatchDepartures reaches computes the plain function that is typed beside it; no condition. -/
import Derived.Test.YtmhmpfckdhiijaaProg
import Derived.Test.YtmhmpfckdhiijaaDat
set_option linter.all false
set_option maxRecDepth 20000
namespace Go.Proofs.Ytmhmpfckdhiijaa
open Go Go.RowKit Go.Eng
theorem Try.hm : Try.prog.follows .mixedOrders = true := by kernel_rfl
theorem ag_109 : aggB Try.prog 109 = some true := by kernel_rfl
theorem ag_111 : aggB Try.prog 111 = some true := by kernel_rfl
theorem ag_2 : aggB Try.prog 2 = some false := by kernel_rfl
theorem ag_29 : aggB Try.prog 29 = some false := by kernel_rfl
theorem ag_30 : aggB Try.prog 30 = some false := by kernel_rfl
theorem ag_32 : aggB Try.prog 32 = some true := by kernel_rfl
theorem ag_35 : aggB Try.prog 35 = some false := by kernel_rfl
theorem ag_36 : aggB Try.prog 36 = some false := by kernel_rfl
theorem ag_38 : aggB Try.prog 38 = some true := by kernel_rfl
theorem ag_4 : aggB Try.prog 4 = some false := by kernel_rfl
theorem ag_50 : aggB Try.prog 50 = some true := by kernel_rfl
theorem ag_77 : aggB Try.prog 77 = some true := by kernel_rfl
theorem cn_109 : cellsN Try.prog 109 = some 2 := by kernel_rfl
theorem cn_111 : cellsN Try.prog 111 = some 4 := by kernel_rfl
theorem cn_2 : cellsN Try.prog 2 = some 1 := by kernel_rfl
theorem cn_32 : cellsN Try.prog 32 = some 2 := by kernel_rfl
theorem cn_35 : cellsN Try.prog 35 = some 1 := by kernel_rfl
theorem cn_36 : cellsN Try.prog 36 = some 1 := by kernel_rfl
theorem cn_38 : cellsN Try.prog 38 = some 2 := by kernel_rfl
theorem cn_4 : cellsN Try.prog 4 = some 1 := by kernel_rfl
theorem cn_50 : cellsN Try.prog 50 = some 2 := by kernel_rfl
theorem cn_77 : cellsN Try.prog 77 = some 4 := by kernel_rfl
theorem fo_109_0 : fieldOff Try.prog 109 0 = some 0 := by kernel_rfl
theorem fo_109_1 : fieldOff Try.prog 109 1 = some 1 := by kernel_rfl
theorem fo_111_0 : fieldOff Try.prog 111 0 = some 0 := by kernel_rfl
theorem fo_111_1 : fieldOff Try.prog 111 1 = some 1 := by kernel_rfl
theorem fo_111_2 : fieldOff Try.prog 111 2 = some 2 := by kernel_rfl
theorem fo_111_3 : fieldOff Try.prog 111 3 = some 3 := by kernel_rfl
theorem fo_32_0 : fieldOff Try.prog 32 0 = some 0 := by kernel_rfl
theorem fo_32_1 : fieldOff Try.prog 32 1 = some 1 := by kernel_rfl
theorem fo_38_0 : fieldOff Try.prog 38 0 = some 0 := by kernel_rfl
theorem fo_38_1 : fieldOff Try.prog 38 1 = some 1 := by kernel_rfl
theorem fo_50_0 : fieldOff Try.prog 50 0 = some 0 := by kernel_rfl
theorem fo_50_1 : fieldOff Try.prog 50 1 = some 1 := by kernel_rfl
theorem fo_77_0 : fieldOff Try.prog 77 0 = some 0 := by kernel_rfl
theorem fo_77_1 : fieldOff Try.prog 77 1 = some 1 := by kernel_rfl
theorem fo_77_2 : fieldOff Try.prog 77 2 = some 2 := by kernel_rfl
theorem fo_77_3 : fieldOff Try.prog 77 3 = some 3 := by kernel_rfl
theorem gf_18 : goFn Try.prog 18 = true := by kernel_rfl
theorem gf_19 : goFn Try.prog 19 = true := by kernel_rfl
theorem gf_20 : goFn Try.prog 20 = true := by kernel_rfl
theorem gf_21 : goFn Try.prog 21 = true := by kernel_rfl
theorem gf_22 : goFn Try.prog 22 = true := by kernel_rfl
theorem gf_30 : goFn Try.prog 30 = true := by kernel_rfl
theorem gf_36 : goFn Try.prog 36 = true := by kernel_rfl
theorem gf_39 : goFn Try.prog 39 = true := by kernel_rfl
theorem gf_43 : goFn Try.prog 43 = true := by kernel_rfl
theorem gf_48 : goFn Try.prog 48 = true := by kernel_rfl
theorem gf_49 : goFn Try.prog 49 = true := by kernel_rfl
theorem gf_55 : goFn Try.prog 55 = true := by kernel_rfl
theorem gf_56 : goFn Try.prog 56 = true := by kernel_rfl
theorem gf_57 : goFn Try.prog 57 = true := by kernel_rfl
theorem gf_58 : goFn Try.prog 58 = true := by kernel_rfl
theorem gf_59 : goFn Try.prog 59 = true := by kernel_rfl
theorem gf_60 : goFn Try.prog 60 = true := by kernel_rfl
theorem gf_61 : goFn Try.prog 61 = true := by kernel_rfl
theorem gf_62 : goFn Try.prog 62 = true := by kernel_rfl
theorem gf_63 : goFn Try.prog 63 = true := by kernel_rfl
theorem gf_66 : goFn Try.prog 66 = true := by kernel_rfl
theorem gf_67 : goFn Try.prog 67 = true := by kernel_rfl
theorem gf_75 : goFn Try.prog 75 = true := by kernel_rfl
theorem gf_76 : goFn Try.prog 76 = true := by kernel_rfl
theorem gf_78 : goFn Try.prog 78 = true := by kernel_rfl
theorem gf_83 : goFn Try.prog 83 = true := by kernel_rfl
theorem gf_84 : goFn Try.prog 84 = true := by kernel_rfl
theorem gf_89 : goFn Try.prog 89 = true := by kernel_rfl
theorem gf_90 : goFn Try.prog 90 = true := by kernel_rfl
theorem gf_91 : goFn Try.prog 91 = true := by kernel_rfl
theorem gf_92 : goFn Try.prog 92 = true := by kernel_rfl
theorem gf_94 : goFn Try.prog 94 = true := by kernel_rfl
theorem gf_95 : goFn Try.prog 95 = true := by kernel_rfl
theorem gf_96 : goFn Try.prog 96 = true := by kernel_rfl
theorem in_2 : infoN Try.prog 2 = some ([.int .i64 0], 1, 8) := by kernel_rfl
theorem in_4 : infoN Try.prog 4 = some ([.bool false], 1, 1) := by kernel_rfl
theorem in_50 : infoN Try.prog 50 = some ([.int .i64 0, .int .i64 0], 2, 16) := by kernel_rfl
theorem in_77 : infoN Try.prog 77 = some ([.int .i64 0, .int .i64 0, .int .i64 0, .int .i64 0], 4, 32) := by kernel_rfl
theorem zn_38 : zeroN Try.prog 38 = some [.slice none 0 0, .slice none 0 0] := by kernel_rfl
theorem zn_50 : zeroN Try.prog 50 = some [.int .i64 0, .int .i64 0] := by kernel_rfl
theorem zn_77 : zeroN Try.prog 77 = some [.int .i64 0, .int .i64 0, .int .i64 0, .int .i64 0] := by kernel_rfl
-- loop.example/g00861/laws.szLatchS
def F_laws_szLatchS (n : Nat) (a0_a : List S_Latch) (a1_left : Int) : Option Int := (bif decide (IntKind.wrap IntKind.i64 (a1_left - ((a0_a.length : Int))) < 0) then (some (-1)) else (some (IntKind.wrap IntKind.i64 (a1_left - ((a0_a.length : Int))))))
set_option maxHeartbeats 4000000 in
theorem W_laws_szLatchS {n : Nat} {a0_a : List S_Latch} {a1_left : Int} {r : Int} {w : World} {v1 : Value} (hF : F_laws_szLatchS n a0_a a1_left = some r) (ha2 : slRep C_Latch w (Iv 0 w.heap.size) a0_a v1) :
    Calls Try.prog 55 [v1, .int .i64 a1_left].toArray w (Ret fun u w2 => u = .int .i64 r ∧ Ext w w2) := by
  refine calls_of Try.func55 rfl Try.ntmps55 ?_
  have he0 : Ext w w := Ext.refl w
  unfold F_laws_szLatchS at hF
  refine WC.seq ?_
  refine WC.region ?_
  refine TL.yld rfl rfl (yld_assign rfl rfl) ?_
  refine TL.done ?_
  refine NX.seq ?_
  refine WC.seq ?_
  refine WC.region ?_
  refine TL.yld rfl rfl (yld_move rfl rfl) ?_
  refine TL.yld rfl rfl (yld_move rfl rfl) ?_
  refine TL.yld rfl rfl (ye_len (c := C_Latch) rfl Try.underlying29 rfl (slRep.old ha2 he0 (Nat.le_refl _))) ?_
  refine TL.yld rfl rfl (yld_sub rfl rfl rfl) ?_
  refine TL.yld rfl rfl (yld_assign rfl rfl) ?_
  refine TL.done ?_
  refine NX.seq ?_
  refine WC.seq ?_
  refine WC.seq ?_
  refine WC.region ?_
  refine TL.yld rfl rfl (yld_move rfl rfl) ?_
  refine TL.yld rfl rfl (yld_lss rfl rfl rfl) ?_
  refine TL.done ?_
  refine NX.seq ?_
  refine WC.cond rfl ?_ ?_
  · intro hc3
    replace hF := bif_t hc3 hF
    refine WC.seq ?_
    refine WC.region ?_
    refine TL.yld rfl rfl (yld_assign rfl rfl) ?_
    refine TL.done ?_
    refine NX.seq ?_
    refine WC.ret' ?_
    refine NX.then_r ?_
    obtain rfl := Option.some.inj hF
    exact NX.end (rs := [.tmp 4]) (vs := [.int .i64 (-1)]) rfl ⟨rfl, trivial⟩ ⟨_, rfl, rfl, he0⟩
  · intro hc4
    replace hF := bif_f hc4 hF
    refine WC.skip' ?_
    refine NX.seq ?_
    refine WC.seq ?_
    refine WC.region ?_
    refine TL.yld rfl rfl (yld_move rfl rfl) ?_
    refine TL.yld rfl rfl (yld_assign rfl rfl) ?_
    refine TL.done ?_
    refine NX.seq ?_
    refine WC.ret' ?_
    obtain rfl := Option.some.inj hF
    exact NX.end (rs := [.tmp 4]) (vs := [.int .i64 (IntKind.wrap IntKind.i64 (a1_left - ((a0_a.length : Int))))]) rfl ⟨rfl, trivial⟩ ⟨_, rfl, rfl, he0⟩

-- loop.example/g00861/laws.szLatchLinkS
def F_laws_szLatchLinkS (n : Nat) (a0_a : List S_LatchLink) (a1_left : Int) : Option Int := (bif decide (IntKind.wrap IntKind.i64 (a1_left - ((a0_a.length : Int))) < 0) then (some (-1)) else (some (IntKind.wrap IntKind.i64 (a1_left - ((a0_a.length : Int))))))
set_option maxHeartbeats 4000000 in
theorem W_laws_szLatchLinkS {n : Nat} {a0_a : List S_LatchLink} {a1_left : Int} {r : Int} {w : World} {v1 : Value} (hF : F_laws_szLatchLinkS n a0_a a1_left = some r) (ha2 : slRep C_LatchLink w (Iv 0 w.heap.size) a0_a v1) :
    Calls Try.prog 56 [v1, .int .i64 a1_left].toArray w (Ret fun u w2 => u = .int .i64 r ∧ Ext w w2) := by
  refine calls_of Try.func56 rfl Try.ntmps56 ?_
  have he0 : Ext w w := Ext.refl w
  unfold F_laws_szLatchLinkS at hF
  refine WC.seq ?_
  refine WC.region ?_
  refine TL.yld rfl rfl (yld_assign rfl rfl) ?_
  refine TL.done ?_
  refine NX.seq ?_
  refine WC.seq ?_
  refine WC.region ?_
  refine TL.yld rfl rfl (yld_move rfl rfl) ?_
  refine TL.yld rfl rfl (yld_move rfl rfl) ?_
  refine TL.yld rfl rfl (ye_len (c := C_LatchLink) rfl Try.underlying30 rfl (slRep.old ha2 he0 (Nat.le_refl _))) ?_
  refine TL.yld rfl rfl (yld_sub rfl rfl rfl) ?_
  refine TL.yld rfl rfl (yld_assign rfl rfl) ?_
  refine TL.done ?_
  refine NX.seq ?_
  refine WC.seq ?_
  refine WC.seq ?_
  refine WC.region ?_
  refine TL.yld rfl rfl (yld_move rfl rfl) ?_
  refine TL.yld rfl rfl (yld_lss rfl rfl rfl) ?_
  refine TL.done ?_
  refine NX.seq ?_
  refine WC.cond rfl ?_ ?_
  · intro hc3
    replace hF := bif_t hc3 hF
    refine WC.seq ?_
    refine WC.region ?_
    refine TL.yld rfl rfl (yld_assign rfl rfl) ?_
    refine TL.done ?_
    refine NX.seq ?_
    refine WC.ret' ?_
    refine NX.then_r ?_
    obtain rfl := Option.some.inj hF
    exact NX.end (rs := [.tmp 4]) (vs := [.int .i64 (-1)]) rfl ⟨rfl, trivial⟩ ⟨_, rfl, rfl, he0⟩
  · intro hc4
    replace hF := bif_f hc4 hF
    refine WC.skip' ?_
    refine NX.seq ?_
    refine WC.seq ?_
    refine WC.region ?_
    refine TL.yld rfl rfl (yld_move rfl rfl) ?_
    refine TL.yld rfl rfl (yld_assign rfl rfl) ?_
    refine TL.done ?_
    refine NX.seq ?_
    refine WC.ret' ?_
    obtain rfl := Option.some.inj hF
    exact NX.end (rs := [.tmp 4]) (vs := [.int .i64 (IntKind.wrap IntKind.i64 (a1_left - ((a0_a.length : Int))))]) rfl ⟨rfl, trivial⟩ ⟨_, rfl, rfl, he0⟩

-- loop.example/g00861/laws.szLatchSystem
def F_laws_szLatchSystem (n : Nat) (a0_a : S_LatchSystem) (a1_left : Int) : Option Int := (Option.bind (F_laws_szLatchS n a0_a.Latches a1_left) fun r12 => (bif decide (r12 < 0) then (some (-1)) else (Option.bind (F_laws_szLatchLinkS n a0_a.Links r12) fun r20 => (bif decide (r20 < 0) then (some (-1)) else (some r20)))))
set_option maxHeartbeats 4000000 in
theorem W_laws_szLatchSystem {n : Nat} {a0_a : S_LatchSystem} {a1_left : Int} {r : Int} {w : World} {v1 : Value} {v3 : Value} (hF : F_laws_szLatchSystem n a0_a a1_left = some r) (ha2 : slRep C_Latch w (Iv 0 w.heap.size) a0_a.Latches v1) (ha4 : slRep C_LatchLink w (Iv 0 w.heap.size) a0_a.Links v3) :
    Calls Try.prog 18 [.agg #[v1, v3], .int .i64 a1_left].toArray w (Ret fun u w2 => u = .int .i64 r ∧ Ext w w2) := by
  refine calls_of Try.func18 rfl Try.ntmps18 ?_
  have he0 : Ext w w := Ext.refl w
  unfold F_laws_szLatchSystem at hF
  refine WC.seq ?_
  refine WC.region ?_
  refine TL.eff rfl rfl (eff_box rfl rfl) ?_
  rintro _ w6 ⟨b5, rfl, hn7⟩
  obtain ⟨hn7e, hn7s, hn7x, hb8⟩ := hn7
  have hb8 : Box w6 b5 [v1, v3] 32 := hb8
  have he10 : Ext w w6 := Ext.trans he0 hn7x
  have hz11 := (hn7x).size
  have hlo9 : w.heap.size ≤ b5 := by rw [hn7e]; exact (he0).size
  refine TL.yld rfl rfl (yld_assign rfl rfl) ?_
  refine TL.done ?_
  refine NX.seq ?_
  refine WC.seq ?_
  refine WC.region ?_
  refine TL.yld rfl rfl (yld_fieldAddr rfl fo_32_0 rfl) ?_
  refine TL.yld rfl rfl (yld_load1 0 rfl ag_29 rfl (Box.cells hb8) rfl rfl) ?_
  refine TL.yld rfl rfl (yld_move rfl rfl) ?_
  obtain ⟨r12, hr13, hF⟩ := bsome hF
  refine TL.eff rfl rfl (eff_call rfl gf_55 rfl (W_laws_szLatchS hr13 ((slRep.old ha2 he10 (Nat.le_refl _)).wide (Nat.le_refl _) (he10).size))) ?_
  rintro _ w14 ⟨rfl, hx15⟩
  have he16 : Ext w w14 := Ext.trans he10 hx15
  have hb8 := Box.ext hb8 hx15
  have hz17 := (hx15).size
  refine TL.yld rfl rfl (yld_assign rfl rfl) ?_
  refine TL.done ?_
  refine NX.seq ?_
  refine WC.seq ?_
  refine WC.seq ?_
  refine WC.region ?_
  refine TL.yld rfl rfl (yld_move rfl rfl) ?_
  refine TL.yld rfl rfl (yld_lss rfl rfl rfl) ?_
  refine TL.done ?_
  refine NX.seq ?_
  refine WC.cond rfl ?_ ?_
  · intro hc18
    replace hF := bif_t hc18 hF
    refine WC.seq ?_
    refine WC.region ?_
    refine TL.yld rfl rfl (yld_assign rfl rfl) ?_
    refine TL.done ?_
    refine NX.seq ?_
    refine WC.ret' ?_
    refine NX.then_r ?_
    obtain rfl := Option.some.inj hF
    exact NX.end (rs := [.tmp 4]) (vs := [.int .i64 (-1)]) rfl ⟨rfl, trivial⟩ ⟨_, rfl, rfl, he16⟩
  · intro hc19
    replace hF := bif_f hc19 hF
    refine WC.skip' ?_
    refine NX.seq ?_
    refine WC.seq ?_
    refine WC.region ?_
    refine TL.yld rfl rfl (yld_fieldAddr rfl fo_32_1 rfl) ?_
    refine TL.yld rfl rfl (yld_load1 1 rfl ag_30 rfl (Box.cells hb8) rfl rfl) ?_
    refine TL.yld rfl rfl (yld_move rfl rfl) ?_
    obtain ⟨r20, hr21, hF⟩ := bsome hF
    refine TL.eff rfl rfl (eff_call rfl gf_56 rfl (W_laws_szLatchLinkS hr21 ((slRep.old ha4 he16 (Nat.le_refl _)).wide (Nat.le_refl _) (he16).size))) ?_
    rintro _ w22 ⟨rfl, hx23⟩
    have he24 : Ext w w22 := Ext.trans he16 hx23
    have hb8 := Box.ext hb8 hx23
    have hz25 := (hx23).size
    refine TL.yld rfl rfl (yld_assign rfl rfl) ?_
    refine TL.done ?_
    refine NX.seq ?_
    refine WC.seq ?_
    refine WC.seq ?_
    refine WC.region ?_
    refine TL.yld rfl rfl (yld_move rfl rfl) ?_
    refine TL.yld rfl rfl (yld_lss rfl rfl rfl) ?_
    refine TL.done ?_
    refine NX.seq ?_
    refine WC.cond rfl ?_ ?_
    · intro hc26
      replace hF := bif_t hc26 hF
      refine WC.seq ?_
      refine WC.region ?_
      refine TL.yld rfl rfl (yld_assign rfl rfl) ?_
      refine TL.done ?_
      refine NX.seq ?_
      refine WC.ret' ?_
      refine NX.then_r ?_
      obtain rfl := Option.some.inj hF
      exact NX.end (rs := [.tmp 4]) (vs := [.int .i64 (-1)]) rfl ⟨rfl, trivial⟩ ⟨_, rfl, rfl, he24⟩
    · intro hc27
      replace hF := bif_f hc27 hF
      refine WC.skip' ?_
      refine NX.seq ?_
      refine WC.seq ?_
      refine WC.region ?_
      refine TL.yld rfl rfl (yld_move rfl rfl) ?_
      refine TL.yld rfl rfl (yld_assign rfl rfl) ?_
      refine TL.done ?_
      refine NX.seq ?_
      refine WC.ret' ?_
      obtain rfl := Option.some.inj hF
      exact NX.end (rs := [.tmp 4]) (vs := [.int .i64 r20]) rfl ⟨rfl, trivial⟩ ⟨_, rfl, rfl, he24⟩

-- loop.example/g00861/laws.toLatch
def F_laws_toLatch (n : Nat) (a0_a : S_Latch) : Option S_Latch := (some a0_a)
set_option maxHeartbeats 4000000 in
theorem W_laws_toLatch {n : Nat} {a0_a : S_Latch} {r : S_Latch} {w : World} (hF : F_laws_toLatch n a0_a = some r) :
    Calls Try.prog 89 [.agg #[.int .i64 a0_a.Open, .int .i64 a0_a.Close]].toArray w (Ret fun u w2 => u = .agg #[.int .i64 r.Open, .int .i64 r.Close] ∧ Ext w w2) := by
  refine calls_of Try.func89 rfl Try.ntmps89 ?_
  have he0 : Ext w w := Ext.refl w
  unfold F_laws_toLatch at hF
  refine WC.seq ?_
  refine WC.region ?_
  refine TL.eff rfl rfl (eff_box rfl rfl) ?_
  rintro _ w2 ⟨b1, rfl, hn3⟩
  obtain ⟨hn3e, hn3s, hn3x, hb4⟩ := hn3
  have hb4 : Box w2 b1 [.int .i64 a0_a.Open, .int .i64 a0_a.Close] 109 := hb4
  have he6 : Ext w w2 := Ext.trans he0 hn3x
  have hz7 := (hn3x).size
  have hlo5 : w.heap.size ≤ b1 := by rw [hn3e]; exact (he0).size
  refine TL.eff rfl rfl (eff_alloc rfl zn_50) ?_
  rintro _ w9 ⟨b8, rfl, hn10⟩
  obtain ⟨hn10e, hn10s, hn10x, hb11⟩ := hn10
  have hb11 : Box w9 b8 [.int .i64 0, .int .i64 0] 50 := hb11
  have he13 : Ext w w9 := Ext.trans he6 hn10x
  have hb4 := Box.ext hb4 hn10x
  have hz14 := (hn10x).size
  have hlo12 : w.heap.size ≤ b8 := by rw [hn10e]; exact (he6).size
  refine TL.done ?_
  refine NX.seq ?_
  refine WC.seq ?_
  refine WC.region ?_
  refine TL.eff rfl rfl (eff_alloc rfl zn_50) ?_
  rintro _ w16 ⟨b15, rfl, hn17⟩
  obtain ⟨hn17e, hn17s, hn17x, hb18⟩ := hn17
  have hb18 : Box w16 b15 [.int .i64 0, .int .i64 0] 50 := hb18
  have he20 : Ext w w16 := Ext.trans he13 hn17x
  have hb4 := Box.ext hb4 hn17x
  have hb11 := Box.ext hb11 hn17x
  have hz21 := (hn17x).size
  have hlo19 : w.heap.size ≤ b15 := by rw [hn17e]; exact (he13).size
  refine TL.done ?_
  refine NX.seq ?_
  refine WC.seq ?_
  refine WC.region ?_
  refine TL.yld rfl rfl (yld_fieldAddr rfl fo_109_0 rfl) ?_
  refine TL.yld rfl rfl (yld_load1 0 rfl ag_2 rfl (Box.cells hb4) rfl rfl) ?_
  refine TL.yld rfl rfl (yld_fieldAddr rfl fo_50_0 rfl) ?_
  refine TL.eff rfl rfl (eff_store rfl rfl rfl hb18 cn_2 rfl rfl) ?_
  rintro _ w22 ⟨hu23, hb24⟩
  have he25 : Ext w w22 := Below.trans he20 (Upd.below hu23 (by omega))
  have hb4 := Box.upd hb4 hu23 (by omega)
  have hb11 := Box.upd hb11 hu23 (by omega)
  have hz26 := (hu23).size
  have hb18 : Box w22 b15 [.int .i64 a0_a.Open, .int .i64 0] 50 := hb24
  refine TL.done ?_
  refine NX.seq ?_
  refine WC.seq ?_
  refine WC.region ?_
  refine TL.yld rfl rfl (yld_fieldAddr rfl fo_109_1 rfl) ?_
  refine TL.yld rfl rfl (yld_load1 1 rfl ag_2 rfl (Box.cells hb4) rfl rfl) ?_
  refine TL.yld rfl rfl (yld_fieldAddr rfl fo_50_1 rfl) ?_
  refine TL.eff rfl rfl (eff_store rfl rfl rfl hb18 cn_2 rfl rfl) ?_
  rintro _ w27 ⟨hu28, hb29⟩
  have he30 : Ext w w27 := Below.trans he25 (Upd.below hu28 (by omega))
  have hb4 := Box.upd hb4 hu28 (by omega)
  have hb11 := Box.upd hb11 hu28 (by omega)
  have hz31 := (hu28).size
  have hb18 : Box w27 b15 [.int .i64 a0_a.Open, .int .i64 a0_a.Close] 50 := hb29
  refine TL.done ?_
  refine NX.seq ?_
  refine WC.seq ?_
  refine WC.region ?_
  refine TL.yld rfl rfl (yld_loadN (us := [.int .i64 a0_a.Open, .int .i64 a0_a.Close]) rfl ag_50 rfl (Box.cells hb18) cn_50) ?_
  refine TL.eff rfl rfl (eff_store rfl rfl rfl hb11 cn_50 rfl rfl) ?_
  rintro _ w32 ⟨hu33, hb34⟩
  have he35 : Ext w w32 := Below.trans he30 (Upd.below hu33 (by omega))
  have hb4 := Box.upd hb4 hu33 (by omega)
  have hb18 := Box.upd hb18 hu33 (by omega)
  have hz36 := (hu33).size
  have hb11 : Box w32 b8 [.int .i64 a0_a.Open, .int .i64 a0_a.Close] 50 := hb34
  refine TL.done ?_
  refine NX.seq ?_
  refine WC.ret' ?_
  obtain rfl := Option.some.inj hF
  exact NX.end (rs := [.cell 2 50]) (vs := [.agg #[.int .i64 a0_a.Open, .int .i64 a0_a.Close]]) rfl ⟨⟨b8, rfl, box_load ag_50 cn_50 hb11⟩, trivial⟩ ⟨_, rfl, rfl, he35⟩

-- loop.example/g00861/laws.toLatchS
def F_laws_toLatchS_L1 (n : Nat) (a0_a : List S_Latch) (k0 : Int → (List S_Latch) → Option (List S_Latch)) : Nat → Int → (List S_Latch) → Option (List S_Latch)
  | 0 => fun _ _ => none
  | m + 1 => fun i20 l21 => (bif decide (i20 < (a0_a.length : Int)) then (Option.bind (getI a0_a i20) fun x24 => (Option.bind (F_laws_toLatch n x24) fun r32 => (Option.bind (getI l21 i20) fun x38 => (F_laws_toLatchS_L1 n a0_a k0 m (IntKind.wrap IntKind.i64 (i20 + 1)) ((l21.set (i20).toNat r32)))))) else (k0 i20 l21))
theorem F_laws_toLatchS_L1_z (n : Nat) (a0_a : List S_Latch) (k0 : Int → (List S_Latch) → Option (List S_Latch)) (i20 : Int) (l21 : List S_Latch) : F_laws_toLatchS_L1 n a0_a k0 0 i20 l21 = none := rfl
theorem F_laws_toLatchS_L1_s (m : Nat) (n : Nat) (a0_a : List S_Latch) (k0 : Int → (List S_Latch) → Option (List S_Latch)) (i20 : Int) (l21 : List S_Latch) : F_laws_toLatchS_L1 n a0_a k0 (m + 1) i20 l21 = (bif decide (i20 < (a0_a.length : Int)) then (Option.bind (getI a0_a i20) fun x24 => (Option.bind (F_laws_toLatch n x24) fun r32 => (Option.bind (getI l21 i20) fun x38 => (F_laws_toLatchS_L1 n a0_a k0 m (IntKind.wrap IntKind.i64 (i20 + 1)) ((l21.set (i20).toNat r32)))))) else (k0 i20 l21)) := rfl

def F_laws_toLatchS (n : Nat) (a0_a : List S_Latch) : Option (List S_Latch) := (Option.bind (mkN ((a0_a.length : Int)) 16) fun n3 => (F_laws_toLatchS_L1 n a0_a (fun i20 l21 => (some l21)) n 0 (List.replicate n3 ((S_Latch.mk 0 0)))))
set_option maxHeartbeats 4000000 in
theorem W_laws_toLatchS {n : Nat} {a0_a : List S_Latch} {r : List S_Latch} {w : World} {v1 : Value} (hF : F_laws_toLatchS n a0_a = some r) (ha2 : slRep C_Latch w (Iv 0 w.heap.size) a0_a v1) :
    Calls Try.prog 58 [v1].toArray w (Ret fun u w2 => ∃ v0_0, u = v0_0 ∧ ownR C_Latch w2 w.heap.size (Iv 0 0) 50 r v0_0 ∧ Ext w w2) := by
  refine calls_of Try.func58 rfl Try.ntmps58 ?_
  have he0 : Ext w w := Ext.refl w
  unfold F_laws_toLatchS at hF
  refine WC.seq ?_
  refine WC.region ?_
  refine TL.yld rfl rfl (yld_assign rfl rfl) ?_
  refine TL.done ?_
  refine NX.seq ?_
  refine WC.seq ?_
  refine WC.region ?_
  refine TL.yld rfl rfl (yld_move rfl rfl) ?_
  refine TL.yld rfl rfl (ye_len (c := C_Latch) rfl Try.underlying29 rfl (slRep.old ha2 he0 (Nat.le_refl _))) ?_
  obtain ⟨n3, hk4, hF⟩ := bsome hF
  refine TL.eff rfl rfl (eff_make (c := C_Latch) (z := (S_Latch.mk 0 0)) rfl Try.underlying35 in_50 rfl rfl rfl hk4 rfl rfl (fun _ => C_Latch_mk)) ?_
  rintro v5 w6 ⟨g7, hv8, hg9, hz10, hx11, hs12⟩
  have he13 : Ext w w6 := Ext.trans he0 hx11
  have hz14 := (hx11).size
  have hlo15 : w.heap.size ≤ g7 := by rw [hg9]; exact (he0).size
  have hbd16 := bd_of hv8
  clear hv8
  refine TL.yld rfl rfl (yld_assign rfl rfl) ?_
  refine TL.done ?_
  refine NX.seq ?_
  refine WC.seq ?_
  refine WC.seq ?_
  refine WC.region ?_
  refine TL.yld rfl rfl (yld_assign rfl rfl) ?_
  refine TL.done ?_
  refine NX.seq ?_
  refine WC.block ?_
  refine WC.loop (fun m23 a wl => ∃ (i20 : Int) (l21 : List S_Latch), Kn 23 [(0, v1), (3, v5), (4, .int .i64 i20)] a ∧ Ext w wl ∧ w6.heap.size ≤ wl.heap.size ∧ ownR C_Latch wl (g7) (Iv 0 0) 50 l21 v5 ∧ F_laws_toLatchS_L1 n a0_a (fun i20 l21 => (some l21)) m23 i20 l21 = some r) n ?_ ?_
  · intro a hK; exact ⟨0, (List.replicate n3 ((S_Latch.mk 0 0))), hK.weaken ⟨rfl, rfl, rfl, trivial⟩, he13, Nat.le_refl _, hs12, hF⟩
  · rintro m23 a w18 ⟨i20, l21, hK, he19, hz24, hs22, hF⟩
    revert hK; revert a; refine (?_ : WC _ _ _ _ _ _)
    cases m23 with
    | zero => rw [F_laws_toLatchS_L1_z] at hF; cases hF
    | succ m23 =>
      rw [F_laws_toLatchS_L1_s] at hF
      refine WC.seq ?_
      refine WC.seq ?_
      refine WC.region ?_
      refine TL.yld rfl rfl (yld_move rfl rfl) ?_
      refine TL.yld rfl rfl (yld_move rfl rfl) ?_
      refine TL.yld rfl rfl (ye_len (c := C_Latch) rfl Try.underlying29 rfl (slRep.old ha2 he19 (Nat.le_refl _))) ?_
      refine TL.yld rfl rfl (yld_lss rfl rfl rfl) ?_
      refine TL.done ?_
      refine NX.seq ?_
      refine WC.cond rfl ?_ ?_
      · intro hc25
        replace hF := bif_t hc25 hF
        refine WC.skip' ?_
        refine NX.seq ?_
        refine WC.seq ?_
        refine WC.block ?_
        refine WC.region ?_
        refine TL.yld rfl rfl (yld_move rfl rfl) ?_
        refine TL.yld rfl rfl (yld_move rfl rfl) ?_
        refine TL.yld rfl rfl (yld_move rfl rfl) ?_
        refine TL.yld rfl rfl (yld_move rfl rfl) ?_
        obtain ⟨x26, hy27, hF⟩ := bsome hF
        refine TL.ye rfl rfl (ye_index (c := C_Latch) rfl Try.underlying29 cn_109 rfl rfl (slRep.old ha2 he19 (Nat.le_refl _)) hy27) ?_
        rintro _ ⟨b28, o29, us30, rfl, hib33, hr31, hcl32⟩
        have hib33 : 0 ≤ b28 ∧ b28 < w.heap.size := ⟨hib33.1, by have := hib33.2; omega⟩
        obtain rfl := C_Latch_open hr31
        refine TL.yld rfl rfl (yld_loadN (us := [.int .i64 x26.Open, .int .i64 x26.Close]) rfl ag_109 rfl hcl32 cn_109) ?_
        obtain ⟨r34, hr35, hF⟩ := bsome hF
        refine TL.eff rfl rfl (eff_call rfl gf_89 rfl (W_laws_toLatch hr35)) ?_
        rintro _ w36 ⟨rfl, hx37⟩
        have he38 : Ext w w36 := Ext.trans he19 hx37
        have hs22 := ownR.ext hs22 hx37
        have hz39 := (hx37).size
        obtain ⟨x40, hy41, hF⟩ := bsome hF
        refine TL.ye rfl rfl (ye_index_own (c := C_Latch) rfl Try.underlying35 cn_50 rfl rfl hs22 hy41) ?_
        rintro _ ⟨g42, us44, rfl, hg43, hr45, hcl46⟩
        have hr45r := hr45
        obtain rfl := C_Latch_open hr45
        refine TL.eff rfl rfl (eff_store_own (c := C_Latch) (us' := [.int .i64 r34.Open, .int .i64 r34.Close]) (y' := r34) 0 _ rfl rfl rfl hs22 hg43 hy41 rfl cn_50 rfl hr45r hcl46 rfl rfl C_Latch_mk (fun k h => absurd h.2 (Nat.not_lt_zero k))) ?_
        rintro _ w47 ⟨hu48, hs49⟩
        have he50 : Ext w w47 := Below.trans he38 (Upd.below hu48 (by have := hbd16 _ hg43; omega))
        have hz51 := (hu48).size
        refine TL.done ?_
        refine NX.blk_n ?_
        refine NX.seq ?_
        refine WC.region ?_
        refine TL.yld rfl rfl (yld_move rfl rfl) ?_
        refine TL.yld rfl rfl (yld_add rfl rfl rfl) ?_
        refine TL.yld rfl rfl (yld_assign rfl rfl) ?_
        refine TL.done ?_
        refine NX.then_n ?_
        intro a hK; exact ⟨m23, Nat.lt_succ_self m23, (IntKind.wrap IntKind.i64 (i20 + 1)), ((l21.set (i20).toNat r34)), hK.weaken ⟨rfl, rfl, rfl, trivial⟩, he50, (by omega), hs49, hF⟩
      · intro hc52
        replace hF := bif_f hc52 hF
        refine WC.exit' ?_
        refine NX.then_e ?_
        refine NX.then_e ?_
        refine NX.blk_hit ?_
        refine NX.seq ?_
        refine WC.seq ?_
        refine WC.region ?_
        refine TL.yld rfl rfl (yld_move rfl rfl) ?_
        refine TL.yld rfl rfl (yld_assign rfl rfl) ?_
        refine TL.done ?_
        refine NX.seq ?_
        refine WC.ret' ?_
        obtain rfl := Option.some.inj hF
        exact NX.end (rs := [.tmp 2]) (vs := [v5]) rfl ⟨rfl, trivial⟩ ⟨_, rfl, _, rfl, ownR.base hs22 (by omega), he19⟩

-- loop.example/g00861/laws.toLatchLink
def F_laws_toLatchLink (n : Nat) (a0_a : S_LatchLink) : Option S_LatchLink := (some a0_a)
set_option maxHeartbeats 4000000 in
theorem W_laws_toLatchLink {n : Nat} {a0_a : S_LatchLink} {r : S_LatchLink} {w : World} (hF : F_laws_toLatchLink n a0_a = some r) :
    Calls Try.prog 90 [.agg #[.int .i64 a0_a.From, .int .i64 a0_a.To, .int .i64 a0_a.Delay, .int .i64 a0_a.Shift]].toArray w (Ret fun u w2 => u = .agg #[.int .i64 r.From, .int .i64 r.To, .int .i64 r.Delay, .int .i64 r.Shift] ∧ Ext w w2) := by
  refine calls_of Try.func90 rfl Try.ntmps90 ?_
  have he0 : Ext w w := Ext.refl w
  unfold F_laws_toLatchLink at hF
  refine WC.seq ?_
  refine WC.region ?_
  refine TL.eff rfl rfl (eff_box rfl rfl) ?_
  rintro _ w2 ⟨b1, rfl, hn3⟩
  obtain ⟨hn3e, hn3s, hn3x, hb4⟩ := hn3
  have hb4 : Box w2 b1 [.int .i64 a0_a.From, .int .i64 a0_a.To, .int .i64 a0_a.Delay, .int .i64 a0_a.Shift] 111 := hb4
  have he6 : Ext w w2 := Ext.trans he0 hn3x
  have hz7 := (hn3x).size
  have hlo5 : w.heap.size ≤ b1 := by rw [hn3e]; exact (he0).size
  refine TL.eff rfl rfl (eff_alloc rfl zn_77) ?_
  rintro _ w9 ⟨b8, rfl, hn10⟩
  obtain ⟨hn10e, hn10s, hn10x, hb11⟩ := hn10
  have hb11 : Box w9 b8 [.int .i64 0, .int .i64 0, .int .i64 0, .int .i64 0] 77 := hb11
  have he13 : Ext w w9 := Ext.trans he6 hn10x
  have hb4 := Box.ext hb4 hn10x
  have hz14 := (hn10x).size
  have hlo12 : w.heap.size ≤ b8 := by rw [hn10e]; exact (he6).size
  refine TL.done ?_
  refine NX.seq ?_
  refine WC.seq ?_
  refine WC.region ?_
  refine TL.eff rfl rfl (eff_alloc rfl zn_77) ?_
  rintro _ w16 ⟨b15, rfl, hn17⟩
  obtain ⟨hn17e, hn17s, hn17x, hb18⟩ := hn17
  have hb18 : Box w16 b15 [.int .i64 0, .int .i64 0, .int .i64 0, .int .i64 0] 77 := hb18
  have he20 : Ext w w16 := Ext.trans he13 hn17x
  have hb4 := Box.ext hb4 hn17x
  have hb11 := Box.ext hb11 hn17x
  have hz21 := (hn17x).size
  have hlo19 : w.heap.size ≤ b15 := by rw [hn17e]; exact (he13).size
  refine TL.done ?_
  refine NX.seq ?_
  refine WC.seq ?_
  refine WC.region ?_
  refine TL.yld rfl rfl (yld_fieldAddr rfl fo_111_0 rfl) ?_
  refine TL.yld rfl rfl (yld_load1 0 rfl ag_2 rfl (Box.cells hb4) rfl rfl) ?_
  refine TL.yld rfl rfl (yld_fieldAddr rfl fo_77_0 rfl) ?_
  refine TL.eff rfl rfl (eff_store rfl rfl rfl hb18 cn_2 rfl rfl) ?_
  rintro _ w22 ⟨hu23, hb24⟩
  have he25 : Ext w w22 := Below.trans he20 (Upd.below hu23 (by omega))
  have hb4 := Box.upd hb4 hu23 (by omega)
  have hb11 := Box.upd hb11 hu23 (by omega)
  have hz26 := (hu23).size
  have hb18 : Box w22 b15 [.int .i64 a0_a.From, .int .i64 0, .int .i64 0, .int .i64 0] 77 := hb24
  refine TL.done ?_
  refine NX.seq ?_
  refine WC.seq ?_
  refine WC.region ?_
  refine TL.yld rfl rfl (yld_fieldAddr rfl fo_111_1 rfl) ?_
  refine TL.yld rfl rfl (yld_load1 1 rfl ag_2 rfl (Box.cells hb4) rfl rfl) ?_
  refine TL.yld rfl rfl (yld_fieldAddr rfl fo_77_1 rfl) ?_
  refine TL.eff rfl rfl (eff_store rfl rfl rfl hb18 cn_2 rfl rfl) ?_
  rintro _ w27 ⟨hu28, hb29⟩
  have he30 : Ext w w27 := Below.trans he25 (Upd.below hu28 (by omega))
  have hb4 := Box.upd hb4 hu28 (by omega)
  have hb11 := Box.upd hb11 hu28 (by omega)
  have hz31 := (hu28).size
  have hb18 : Box w27 b15 [.int .i64 a0_a.From, .int .i64 a0_a.To, .int .i64 0, .int .i64 0] 77 := hb29
  refine TL.done ?_
  refine NX.seq ?_
  refine WC.seq ?_
  refine WC.region ?_
  refine TL.yld rfl rfl (yld_fieldAddr rfl fo_111_2 rfl) ?_
  refine TL.yld rfl rfl (yld_load1 2 rfl ag_2 rfl (Box.cells hb4) rfl rfl) ?_
  refine TL.yld rfl rfl (yld_fieldAddr rfl fo_77_2 rfl) ?_
  refine TL.eff rfl rfl (eff_store rfl rfl rfl hb18 cn_2 rfl rfl) ?_
  rintro _ w32 ⟨hu33, hb34⟩
  have he35 : Ext w w32 := Below.trans he30 (Upd.below hu33 (by omega))
  have hb4 := Box.upd hb4 hu33 (by omega)
  have hb11 := Box.upd hb11 hu33 (by omega)
  have hz36 := (hu33).size
  have hb18 : Box w32 b15 [.int .i64 a0_a.From, .int .i64 a0_a.To, .int .i64 a0_a.Delay, .int .i64 0] 77 := hb34
  refine TL.done ?_
  refine NX.seq ?_
  refine WC.seq ?_
  refine WC.region ?_
  refine TL.yld rfl rfl (yld_fieldAddr rfl fo_111_3 rfl) ?_
  refine TL.yld rfl rfl (yld_load1 3 rfl ag_2 rfl (Box.cells hb4) rfl rfl) ?_
  refine TL.yld rfl rfl (yld_fieldAddr rfl fo_77_3 rfl) ?_
  refine TL.eff rfl rfl (eff_store rfl rfl rfl hb18 cn_2 rfl rfl) ?_
  rintro _ w37 ⟨hu38, hb39⟩
  have he40 : Ext w w37 := Below.trans he35 (Upd.below hu38 (by omega))
  have hb4 := Box.upd hb4 hu38 (by omega)
  have hb11 := Box.upd hb11 hu38 (by omega)
  have hz41 := (hu38).size
  have hb18 : Box w37 b15 [.int .i64 a0_a.From, .int .i64 a0_a.To, .int .i64 a0_a.Delay, .int .i64 a0_a.Shift] 77 := hb39
  refine TL.done ?_
  refine NX.seq ?_
  refine WC.seq ?_
  refine WC.region ?_
  refine TL.yld rfl rfl (yld_loadN (us := [.int .i64 a0_a.From, .int .i64 a0_a.To, .int .i64 a0_a.Delay, .int .i64 a0_a.Shift]) rfl ag_77 rfl (Box.cells hb18) cn_77) ?_
  refine TL.eff rfl rfl (eff_store rfl rfl rfl hb11 cn_77 rfl rfl) ?_
  rintro _ w42 ⟨hu43, hb44⟩
  have he45 : Ext w w42 := Below.trans he40 (Upd.below hu43 (by omega))
  have hb4 := Box.upd hb4 hu43 (by omega)
  have hb18 := Box.upd hb18 hu43 (by omega)
  have hz46 := (hu43).size
  have hb11 : Box w42 b8 [.int .i64 a0_a.From, .int .i64 a0_a.To, .int .i64 a0_a.Delay, .int .i64 a0_a.Shift] 77 := hb44
  refine TL.done ?_
  refine NX.seq ?_
  refine WC.ret' ?_
  obtain rfl := Option.some.inj hF
  exact NX.end (rs := [.cell 2 77]) (vs := [.agg #[.int .i64 a0_a.From, .int .i64 a0_a.To, .int .i64 a0_a.Delay, .int .i64 a0_a.Shift]]) rfl ⟨⟨b8, rfl, box_load ag_77 cn_77 hb11⟩, trivial⟩ ⟨_, rfl, rfl, he45⟩

-- loop.example/g00861/laws.toLatchLinkS
def F_laws_toLatchLinkS_L1 (n : Nat) (a0_a : List S_LatchLink) (k0 : Int → (List S_LatchLink) → Option (List S_LatchLink)) : Nat → Int → (List S_LatchLink) → Option (List S_LatchLink)
  | 0 => fun _ _ => none
  | m + 1 => fun i20 l21 => (bif decide (i20 < (a0_a.length : Int)) then (Option.bind (getI a0_a i20) fun x24 => (Option.bind (F_laws_toLatchLink n x24) fun r32 => (Option.bind (getI l21 i20) fun x38 => (F_laws_toLatchLinkS_L1 n a0_a k0 m (IntKind.wrap IntKind.i64 (i20 + 1)) ((l21.set (i20).toNat r32)))))) else (k0 i20 l21))
theorem F_laws_toLatchLinkS_L1_z (n : Nat) (a0_a : List S_LatchLink) (k0 : Int → (List S_LatchLink) → Option (List S_LatchLink)) (i20 : Int) (l21 : List S_LatchLink) : F_laws_toLatchLinkS_L1 n a0_a k0 0 i20 l21 = none := rfl
theorem F_laws_toLatchLinkS_L1_s (m : Nat) (n : Nat) (a0_a : List S_LatchLink) (k0 : Int → (List S_LatchLink) → Option (List S_LatchLink)) (i20 : Int) (l21 : List S_LatchLink) : F_laws_toLatchLinkS_L1 n a0_a k0 (m + 1) i20 l21 = (bif decide (i20 < (a0_a.length : Int)) then (Option.bind (getI a0_a i20) fun x24 => (Option.bind (F_laws_toLatchLink n x24) fun r32 => (Option.bind (getI l21 i20) fun x38 => (F_laws_toLatchLinkS_L1 n a0_a k0 m (IntKind.wrap IntKind.i64 (i20 + 1)) ((l21.set (i20).toNat r32)))))) else (k0 i20 l21)) := rfl

def F_laws_toLatchLinkS (n : Nat) (a0_a : List S_LatchLink) : Option (List S_LatchLink) := (Option.bind (mkN ((a0_a.length : Int)) 32) fun n3 => (F_laws_toLatchLinkS_L1 n a0_a (fun i20 l21 => (some l21)) n 0 (List.replicate n3 ((S_LatchLink.mk 0 0 0 0)))))
set_option maxHeartbeats 4000000 in
theorem W_laws_toLatchLinkS {n : Nat} {a0_a : List S_LatchLink} {r : List S_LatchLink} {w : World} {v1 : Value} (hF : F_laws_toLatchLinkS n a0_a = some r) (ha2 : slRep C_LatchLink w (Iv 0 w.heap.size) a0_a v1) :
    Calls Try.prog 59 [v1].toArray w (Ret fun u w2 => ∃ v0_0, u = v0_0 ∧ ownR C_LatchLink w2 w.heap.size (Iv 0 0) 77 r v0_0 ∧ Ext w w2) := by
  refine calls_of Try.func59 rfl Try.ntmps59 ?_
  have he0 : Ext w w := Ext.refl w
  unfold F_laws_toLatchLinkS at hF
  refine WC.seq ?_
  refine WC.region ?_
  refine TL.yld rfl rfl (yld_assign rfl rfl) ?_
  refine TL.done ?_
  refine NX.seq ?_
  refine WC.seq ?_
  refine WC.region ?_
  refine TL.yld rfl rfl (yld_move rfl rfl) ?_
  refine TL.yld rfl rfl (ye_len (c := C_LatchLink) rfl Try.underlying30 rfl (slRep.old ha2 he0 (Nat.le_refl _))) ?_
  obtain ⟨n3, hk4, hF⟩ := bsome hF
  refine TL.eff rfl rfl (eff_make (c := C_LatchLink) (z := (S_LatchLink.mk 0 0 0 0)) rfl Try.underlying36 in_77 rfl rfl rfl hk4 rfl rfl (fun _ => C_LatchLink_mk)) ?_
  rintro v5 w6 ⟨g7, hv8, hg9, hz10, hx11, hs12⟩
  have he13 : Ext w w6 := Ext.trans he0 hx11
  have hz14 := (hx11).size
  have hlo15 : w.heap.size ≤ g7 := by rw [hg9]; exact (he0).size
  have hbd16 := bd_of hv8
  clear hv8
  refine TL.yld rfl rfl (yld_assign rfl rfl) ?_
  refine TL.done ?_
  refine NX.seq ?_
  refine WC.seq ?_
  refine WC.seq ?_
  refine WC.region ?_
  refine TL.yld rfl rfl (yld_assign rfl rfl) ?_
  refine TL.done ?_
  refine NX.seq ?_
  refine WC.block ?_
  refine WC.loop (fun m23 a wl => ∃ (i20 : Int) (l21 : List S_LatchLink), Kn 23 [(0, v1), (3, v5), (4, .int .i64 i20)] a ∧ Ext w wl ∧ w6.heap.size ≤ wl.heap.size ∧ ownR C_LatchLink wl (g7) (Iv 0 0) 77 l21 v5 ∧ F_laws_toLatchLinkS_L1 n a0_a (fun i20 l21 => (some l21)) m23 i20 l21 = some r) n ?_ ?_
  · intro a hK; exact ⟨0, (List.replicate n3 ((S_LatchLink.mk 0 0 0 0))), hK.weaken ⟨rfl, rfl, rfl, trivial⟩, he13, Nat.le_refl _, hs12, hF⟩
  · rintro m23 a w18 ⟨i20, l21, hK, he19, hz24, hs22, hF⟩
    revert hK; revert a; refine (?_ : WC _ _ _ _ _ _)
    cases m23 with
    | zero => rw [F_laws_toLatchLinkS_L1_z] at hF; cases hF
    | succ m23 =>
      rw [F_laws_toLatchLinkS_L1_s] at hF
      refine WC.seq ?_
      refine WC.seq ?_
      refine WC.region ?_
      refine TL.yld rfl rfl (yld_move rfl rfl) ?_
      refine TL.yld rfl rfl (yld_move rfl rfl) ?_
      refine TL.yld rfl rfl (ye_len (c := C_LatchLink) rfl Try.underlying30 rfl (slRep.old ha2 he19 (Nat.le_refl _))) ?_
      refine TL.yld rfl rfl (yld_lss rfl rfl rfl) ?_
      refine TL.done ?_
      refine NX.seq ?_
      refine WC.cond rfl ?_ ?_
      · intro hc25
        replace hF := bif_t hc25 hF
        refine WC.skip' ?_
        refine NX.seq ?_
        refine WC.seq ?_
        refine WC.block ?_
        refine WC.region ?_
        refine TL.yld rfl rfl (yld_move rfl rfl) ?_
        refine TL.yld rfl rfl (yld_move rfl rfl) ?_
        refine TL.yld rfl rfl (yld_move rfl rfl) ?_
        refine TL.yld rfl rfl (yld_move rfl rfl) ?_
        obtain ⟨x26, hy27, hF⟩ := bsome hF
        refine TL.ye rfl rfl (ye_index (c := C_LatchLink) rfl Try.underlying30 cn_111 rfl rfl (slRep.old ha2 he19 (Nat.le_refl _)) hy27) ?_
        rintro _ ⟨b28, o29, us30, rfl, hib33, hr31, hcl32⟩
        have hib33 : 0 ≤ b28 ∧ b28 < w.heap.size := ⟨hib33.1, by have := hib33.2; omega⟩
        obtain rfl := C_LatchLink_open hr31
        refine TL.yld rfl rfl (yld_loadN (us := [.int .i64 x26.From, .int .i64 x26.To, .int .i64 x26.Delay, .int .i64 x26.Shift]) rfl ag_111 rfl hcl32 cn_111) ?_
        obtain ⟨r34, hr35, hF⟩ := bsome hF
        refine TL.eff rfl rfl (eff_call rfl gf_90 rfl (W_laws_toLatchLink hr35)) ?_
        rintro _ w36 ⟨rfl, hx37⟩
        have he38 : Ext w w36 := Ext.trans he19 hx37
        have hs22 := ownR.ext hs22 hx37
        have hz39 := (hx37).size
        obtain ⟨x40, hy41, hF⟩ := bsome hF
        refine TL.ye rfl rfl (ye_index_own (c := C_LatchLink) rfl Try.underlying36 cn_77 rfl rfl hs22 hy41) ?_
        rintro _ ⟨g42, us44, rfl, hg43, hr45, hcl46⟩
        have hr45r := hr45
        obtain rfl := C_LatchLink_open hr45
        refine TL.eff rfl rfl (eff_store_own (c := C_LatchLink) (us' := [.int .i64 r34.From, .int .i64 r34.To, .int .i64 r34.Delay, .int .i64 r34.Shift]) (y' := r34) 0 _ rfl rfl rfl hs22 hg43 hy41 rfl cn_77 rfl hr45r hcl46 rfl rfl C_LatchLink_mk (fun k h => absurd h.2 (Nat.not_lt_zero k))) ?_
        rintro _ w47 ⟨hu48, hs49⟩
        have he50 : Ext w w47 := Below.trans he38 (Upd.below hu48 (by have := hbd16 _ hg43; omega))
        have hz51 := (hu48).size
        refine TL.done ?_
        refine NX.blk_n ?_
        refine NX.seq ?_
        refine WC.region ?_
        refine TL.yld rfl rfl (yld_move rfl rfl) ?_
        refine TL.yld rfl rfl (yld_add rfl rfl rfl) ?_
        refine TL.yld rfl rfl (yld_assign rfl rfl) ?_
        refine TL.done ?_
        refine NX.then_n ?_
        intro a hK; exact ⟨m23, Nat.lt_succ_self m23, (IntKind.wrap IntKind.i64 (i20 + 1)), ((l21.set (i20).toNat r34)), hK.weaken ⟨rfl, rfl, rfl, trivial⟩, he50, (by omega), hs49, hF⟩
      · intro hc52
        replace hF := bif_f hc52 hF
        refine WC.exit' ?_
        refine NX.then_e ?_
        refine NX.then_e ?_
        refine NX.blk_hit ?_
        refine NX.seq ?_
        refine WC.seq ?_
        refine WC.region ?_
        refine TL.yld rfl rfl (yld_move rfl rfl) ?_
        refine TL.yld rfl rfl (yld_assign rfl rfl) ?_
        refine TL.done ?_
        refine NX.seq ?_
        refine WC.ret' ?_
        obtain rfl := Option.some.inj hF
        exact NX.end (rs := [.tmp 2]) (vs := [v5]) rfl ⟨rfl, trivial⟩ ⟨_, rfl, _, rfl, ownR.base hs22 (by omega), he19⟩

-- loop.example/g00861/laws.toLatchSystem
def F_laws_toLatchSystem (n : Nat) (a0_a : S_LatchSystem) : Option S_LatchSystem := (Option.bind (F_laws_toLatchS n a0_a.Latches) fun r26 => (Option.bind (F_laws_toLatchLinkS n a0_a.Links) fun r41 => (some ((S_LatchSystem.mk r26 r41)))))
set_option maxHeartbeats 4000000 in
theorem W_laws_toLatchSystem {n : Nat} {a0_a : S_LatchSystem} {r : S_LatchSystem} {w : World} {v1 : Value} {v3 : Value} (hF : F_laws_toLatchSystem n a0_a = some r) (ha2 : slRep C_Latch w (Iv 0 w.heap.size) a0_a.Latches v1) (ha4 : slRep C_LatchLink w (Iv 0 w.heap.size) a0_a.Links v3) :
    Calls Try.prog 20 [.agg #[v1, v3]].toArray w (Ret fun u w2 => ∃ v0_0 v0_1, u = .agg #[v0_0, v0_1] ∧ ownR C_Latch w2 w.heap.size (Iv 0 0) 50 r.Latches v0_0 ∧ ownR C_LatchLink w2 w.heap.size (Iv 0 0) 77 r.Links v0_1 ∧ (∀ g q, v0_1.ownBlock = some g → v0_0.ownBlock = some q → g ≠ q) ∧ Ext w w2) := by
  refine calls_of Try.func20 rfl Try.ntmps20 ?_
  have he0 : Ext w w := Ext.refl w
  unfold F_laws_toLatchSystem at hF
  refine WC.seq ?_
  refine WC.region ?_
  refine TL.eff rfl rfl (eff_box rfl rfl) ?_
  rintro _ w6 ⟨b5, rfl, hn7⟩
  obtain ⟨hn7e, hn7s, hn7x, hb8⟩ := hn7
  have hb8 : Box w6 b5 [v1, v3] 32 := hb8
  have he10 : Ext w w6 := Ext.trans he0 hn7x
  have hz11 := (hn7x).size
  have hlo9 : w.heap.size ≤ b5 := by rw [hn7e]; exact (he0).size
  refine TL.eff rfl rfl (eff_alloc rfl zn_38) ?_
  rintro _ w13 ⟨b12, rfl, hn14⟩
  obtain ⟨hn14e, hn14s, hn14x, hb15⟩ := hn14
  have hb15 : Box w13 b12 [.slice none 0 0, .slice none 0 0] 38 := hb15
  have he17 : Ext w w13 := Ext.trans he10 hn14x
  have hb8 := Box.ext hb8 hn14x
  have hz18 := (hn14x).size
  have hlo16 : w.heap.size ≤ b12 := by rw [hn14e]; exact (he10).size
  refine TL.done ?_
  refine NX.seq ?_
  refine WC.seq ?_
  refine WC.region ?_
  refine TL.eff rfl rfl (eff_alloc rfl zn_38) ?_
  rintro _ w20 ⟨b19, rfl, hn21⟩
  obtain ⟨hn21e, hn21s, hn21x, hb22⟩ := hn21
  have hb22 : Box w20 b19 [.slice none 0 0, .slice none 0 0] 38 := hb22
  have he24 : Ext w w20 := Ext.trans he17 hn21x
  have hb8 := Box.ext hb8 hn21x
  have hb15 := Box.ext hb15 hn21x
  have hz25 := (hn21x).size
  have hlo23 : w.heap.size ≤ b19 := by rw [hn21e]; exact (he17).size
  refine TL.done ?_
  refine NX.seq ?_
  refine WC.seq ?_
  refine WC.region ?_
  refine TL.yld rfl rfl (yld_fieldAddr rfl fo_32_0 rfl) ?_
  refine TL.yld rfl rfl (yld_load1 0 rfl ag_29 rfl (Box.cells hb8) rfl rfl) ?_
  obtain ⟨r26, hr27, hF⟩ := bsome hF
  refine TL.eff rfl rfl (eff_call rfl gf_58 rfl (W_laws_toLatchS hr27 ((slRep.old ha2 he24 (Nat.le_refl _)).wide (Nat.le_refl _) (he24).size))) ?_
  rintro v30 w28 ⟨_, rfl, hs31, hx29⟩
  have he34 : Ext w w28 := Ext.trans he24 hx29
  have hb8 := Box.ext hb8 hx29
  have hb15 := Box.ext hb15 hx29
  have hb22 := Box.ext hb22 hx29
  have hz35 := (hx29).size
  have hbd33 := ownR.blk hs31
  refine TL.yld rfl rfl (yld_fieldAddr rfl fo_38_0 rfl) ?_
  refine TL.eff rfl rfl (eff_store1 rfl rfl rfl hb22 cn_35 (slRep.cells (ownR.slf hs31 (Nat.le_refl _) (Nat.le_refl _))) (slRep.one (ownR.slf hs31 (Nat.le_refl _) (Nat.le_refl _))) rfl) ?_
  rintro _ w36 ⟨hu37, hb38⟩
  have he39 : Ext w w36 := Below.trans he34 (Upd.below hu37 (by omega))
  have hb8 := Box.upd hb8 hu37 (by omega)
  have hb15 := Box.upd hb15 hu37 (by omega)
  have hs31 := ownR.upd hs31 hu37 (fun g hg => by have := hbd33 g hg; omega)
  have hz40 := (hu37).size
  have hb22 : Box w36 b19 [v30, .slice none 0 0] 38 := hb38
  refine TL.done ?_
  refine NX.seq ?_
  refine WC.seq ?_
  refine WC.region ?_
  refine TL.yld rfl rfl (yld_fieldAddr rfl fo_32_1 rfl) ?_
  refine TL.yld rfl rfl (yld_load1 1 rfl ag_30 rfl (Box.cells hb8) rfl rfl) ?_
  obtain ⟨r41, hr42, hF⟩ := bsome hF
  refine TL.eff rfl rfl (eff_call rfl gf_59 rfl (W_laws_toLatchLinkS hr42 ((slRep.old ha4 he39 (Nat.le_refl _)).wide (Nat.le_refl _) (he39).size))) ?_
  rintro v45 w43 ⟨_, rfl, hs46, hx44⟩
  have he49 : Ext w w43 := Ext.trans he39 hx44
  have hb8 := Box.ext hb8 hx44
  have hb15 := Box.ext hb15 hx44
  have hb22 := Box.ext hb22 hx44
  have hs31 := ownR.ext hs31 hx44
  have hz50 := (hx44).size
  have hbd48 := ownR.blk hs46
  refine TL.yld rfl rfl (yld_fieldAddr rfl fo_38_1 rfl) ?_
  refine TL.eff rfl rfl (eff_store1 rfl rfl rfl hb22 cn_36 (slRep.cells (ownR.slf hs46 (Nat.le_refl _) (Nat.le_refl _))) (slRep.one (ownR.slf hs46 (Nat.le_refl _) (Nat.le_refl _))) rfl) ?_
  rintro _ w51 ⟨hu52, hb53⟩
  have he54 : Ext w w51 := Below.trans he49 (Upd.below hu52 (by omega))
  have hb8 := Box.upd hb8 hu52 (by omega)
  have hb15 := Box.upd hb15 hu52 (by omega)
  have hs31 := ownR.upd hs31 hu52 (fun g hg => by have := hbd33 g hg; omega)
  have hs46 := ownR.upd hs46 hu52 (fun g hg => by have := hbd48 g hg; omega)
  have hz55 := (hu52).size
  have hb22 : Box w51 b19 [v30, v45] 38 := hb53
  refine TL.done ?_
  refine NX.seq ?_
  refine WC.seq ?_
  refine WC.region ?_
  refine TL.yld rfl rfl (yld_loadN (us := [v30, v45]) rfl ag_38 rfl (Box.cells hb22) cn_38) ?_
  refine TL.eff rfl rfl (eff_store rfl rfl rfl hb15 cn_38 (allc_cons (slRep.one (ownR.slf hs31 (Nat.le_refl _) (Nat.le_refl _))) (allc_cons (slRep.one (ownR.slf hs46 (Nat.le_refl _) (Nat.le_refl _))) allc_nil)) rfl) ?_
  rintro _ w56 ⟨hu57, hb58⟩
  have he59 : Ext w w56 := Below.trans he54 (Upd.below hu57 (by omega))
  have hb8 := Box.upd hb8 hu57 (by omega)
  have hb22 := Box.upd hb22 hu57 (by omega)
  have hs31 := ownR.upd hs31 hu57 (fun g hg => by have := hbd33 g hg; omega)
  have hs46 := ownR.upd hs46 hu57 (fun g hg => by have := hbd48 g hg; omega)
  have hz60 := (hu57).size
  have hb15 : Box w56 b12 [v30, v45] 38 := hb58
  refine TL.done ?_
  refine NX.seq ?_
  refine WC.ret' ?_
  obtain rfl := Option.some.inj hF
  exact NX.end (rs := [.cell 2 38]) (vs := [.agg #[v30, v45]]) rfl ⟨⟨b12, rfl, box_load ag_38 cn_38 hb15⟩, trivial⟩ ⟨_, rfl, _, _, rfl, ownR.base hs31 (by omega), ownR.base hs46 (by omega), (fun g q hg hq => by have := hbd48 g hg; have := hbd33 q hq; omega), he59⟩

-- loop.example/g00861/laws.eqLatch
def F_laws_eqLatch (n : Nat) (a0_a : S_Latch) (a1_b : S_Latch) : Option Bool := (bif (a0_a.Open != a1_b.Open) then (some false) else (bif (a0_a.Close != a1_b.Close) then (some false) else (some true)))
set_option maxHeartbeats 4000000 in
theorem W_laws_eqLatch {n : Nat} {a0_a : S_Latch} {a1_b : S_Latch} {r : Bool} {w : World} (hF : F_laws_eqLatch n a0_a a1_b = some r) :
    Calls Try.prog 91 [.agg #[.int .i64 a0_a.Open, .int .i64 a0_a.Close], .agg #[.int .i64 a1_b.Open, .int .i64 a1_b.Close]].toArray w (Ret fun u w2 => u = .bool r ∧ Ext w w2) := by
  refine calls_of Try.func91 rfl Try.ntmps91 ?_
  have he0 : Ext w w := Ext.refl w
  unfold F_laws_eqLatch at hF
  refine WC.seq ?_
  refine WC.region ?_
  refine TL.eff rfl rfl (eff_box rfl rfl) ?_
  rintro _ w2 ⟨b1, rfl, hn3⟩
  obtain ⟨hn3e, hn3s, hn3x, hb4⟩ := hn3
  have hb4 : Box w2 b1 [.int .i64 a0_a.Open, .int .i64 a0_a.Close] 50 := hb4
  have he6 : Ext w w2 := Ext.trans he0 hn3x
  have hz7 := (hn3x).size
  have hlo5 : w.heap.size ≤ b1 := by rw [hn3e]; exact (he0).size
  refine TL.eff rfl rfl (eff_box rfl rfl) ?_
  rintro _ w9 ⟨b8, rfl, hn10⟩
  obtain ⟨hn10e, hn10s, hn10x, hb11⟩ := hn10
  have hb11 : Box w9 b8 [.int .i64 a1_b.Open, .int .i64 a1_b.Close] 50 := hb11
  have he13 : Ext w w9 := Ext.trans he6 hn10x
  have hb4 := Box.ext hb4 hn10x
  have hz14 := (hn10x).size
  have hlo12 : w.heap.size ≤ b8 := by rw [hn10e]; exact (he6).size
  refine TL.yld rfl rfl (yld_assign rfl rfl) ?_
  refine TL.done ?_
  refine NX.seq ?_
  refine WC.seq ?_
  refine WC.seq ?_
  refine WC.region ?_
  refine TL.yld rfl rfl (yld_fieldAddr rfl fo_50_0 rfl) ?_
  refine TL.yld rfl rfl (yld_load1 0 rfl ag_2 rfl (Box.cells hb4) rfl rfl) ?_
  refine TL.yld rfl rfl (yld_fieldAddr rfl fo_50_0 rfl) ?_
  refine TL.yld rfl rfl (yld_load1 0 rfl ag_2 rfl (Box.cells hb11) rfl rfl) ?_
  refine TL.yld rfl rfl (yld_neq rfl rfl rfl) ?_
  refine TL.done ?_
  refine NX.seq ?_
  refine WC.cond rfl ?_ ?_
  · intro hc15
    replace hF := bif_t hc15 hF
    refine WC.seq ?_
    refine WC.region ?_
    refine TL.yld rfl rfl (yld_assign rfl rfl) ?_
    refine TL.done ?_
    refine NX.seq ?_
    refine WC.ret' ?_
    refine NX.then_r ?_
    obtain rfl := Option.some.inj hF
    exact NX.end (rs := [.tmp 4]) (vs := [.bool false]) rfl ⟨rfl, trivial⟩ ⟨_, rfl, rfl, he13⟩
  · intro hc16
    replace hF := bif_f hc16 hF
    refine WC.skip' ?_
    refine NX.seq ?_
    refine WC.seq ?_
    refine WC.seq ?_
    refine WC.region ?_
    refine TL.yld rfl rfl (yld_fieldAddr rfl fo_50_1 rfl) ?_
    refine TL.yld rfl rfl (yld_load1 1 rfl ag_2 rfl (Box.cells hb4) rfl rfl) ?_
    refine TL.yld rfl rfl (yld_fieldAddr rfl fo_50_1 rfl) ?_
    refine TL.yld rfl rfl (yld_load1 1 rfl ag_2 rfl (Box.cells hb11) rfl rfl) ?_
    refine TL.yld rfl rfl (yld_neq rfl rfl rfl) ?_
    refine TL.done ?_
    refine NX.seq ?_
    refine WC.cond rfl ?_ ?_
    · intro hc17
      replace hF := bif_t hc17 hF
      refine WC.seq ?_
      refine WC.region ?_
      refine TL.yld rfl rfl (yld_assign rfl rfl) ?_
      refine TL.done ?_
      refine NX.seq ?_
      refine WC.ret' ?_
      refine NX.then_r ?_
      obtain rfl := Option.some.inj hF
      exact NX.end (rs := [.tmp 4]) (vs := [.bool false]) rfl ⟨rfl, trivial⟩ ⟨_, rfl, rfl, he13⟩
    · intro hc18
      replace hF := bif_f hc18 hF
      refine WC.skip' ?_
      refine NX.seq ?_
      refine WC.seq ?_
      refine WC.region ?_
      refine TL.yld rfl rfl (yld_assign rfl rfl) ?_
      refine TL.done ?_
      refine NX.seq ?_
      refine WC.ret' ?_
      obtain rfl := Option.some.inj hF
      exact NX.end (rs := [.tmp 4]) (vs := [.bool true]) rfl ⟨rfl, trivial⟩ ⟨_, rfl, rfl, he13⟩

-- loop.example/g00861/laws.eqLatchS
def F_laws_eqLatchS_L1 (n : Nat) (a0_a : List S_Latch) (a1_b : List S_Latch) (k0 : Int → Option Bool) : Nat → Int → Option Bool
  | 0 => fun _ => none
  | m + 1 => fun i9 => (bif decide (i9 < (a0_a.length : Int)) then (Option.bind (getI a0_a i9) fun x11 => (Option.bind (getI a1_b i9) fun x19 => (Option.bind (F_laws_eqLatch n x11 x19) fun r27 => (bif (!r27) then (some false) else (F_laws_eqLatchS_L1 n a0_a a1_b k0 m (IntKind.wrap IntKind.i64 (i9 + 1))))))) else (k0 i9))
theorem F_laws_eqLatchS_L1_z (n : Nat) (a0_a : List S_Latch) (a1_b : List S_Latch) (k0 : Int → Option Bool) (i9 : Int) : F_laws_eqLatchS_L1 n a0_a a1_b k0 0 i9 = none := rfl
theorem F_laws_eqLatchS_L1_s (m : Nat) (n : Nat) (a0_a : List S_Latch) (a1_b : List S_Latch) (k0 : Int → Option Bool) (i9 : Int) : F_laws_eqLatchS_L1 n a0_a a1_b k0 (m + 1) i9 = (bif decide (i9 < (a0_a.length : Int)) then (Option.bind (getI a0_a i9) fun x11 => (Option.bind (getI a1_b i9) fun x19 => (Option.bind (F_laws_eqLatch n x11 x19) fun r27 => (bif (!r27) then (some false) else (F_laws_eqLatchS_L1 n a0_a a1_b k0 m (IntKind.wrap IntKind.i64 (i9 + 1))))))) else (k0 i9)) := rfl

def F_laws_eqLatchS (n : Nat) (a0_a : List S_Latch) (a1_b : List S_Latch) : Option Bool := (bif (((a0_a.length : Int)) != ((a1_b.length : Int))) then (some false) else (F_laws_eqLatchS_L1 n a0_a a1_b (fun i9 => (some true)) n 0))
set_option maxHeartbeats 4000000 in
theorem W_laws_eqLatchS {n : Nat} {a0_a : List S_Latch} {a1_b : List S_Latch} {r : Bool} {w : World} {v1 : Value} {v3 : Value} (hF : F_laws_eqLatchS n a0_a a1_b = some r) (ha2 : slRep C_Latch w (Iv 0 w.heap.size) a0_a v1) (ha4 : slRep C_Latch w (Iv 0 w.heap.size) a1_b v3) :
    Calls Try.prog 62 [v1, v3].toArray w (Ret fun u w2 => u = .bool r ∧ Ext w w2) := by
  refine calls_of Try.func62 rfl Try.ntmps62 ?_
  have he0 : Ext w w := Ext.refl w
  unfold F_laws_eqLatchS at hF
  refine WC.seq ?_
  refine WC.region ?_
  refine TL.yld rfl rfl (yld_assign rfl rfl) ?_
  refine TL.done ?_
  refine NX.seq ?_
  refine WC.seq ?_
  refine WC.seq ?_
  refine WC.region ?_
  refine TL.yld rfl rfl (yld_move rfl rfl) ?_
  refine TL.yld rfl rfl (ye_len (c := C_Latch) rfl Try.underlying35 rfl (slRep.old ha2 he0 (Nat.le_refl _))) ?_
  refine TL.yld rfl rfl (yld_move rfl rfl) ?_
  refine TL.yld rfl rfl (ye_len (c := C_Latch) rfl Try.underlying35 rfl (slRep.old ha4 he0 (Nat.le_refl _))) ?_
  refine TL.yld rfl rfl (yld_neq rfl rfl rfl) ?_
  refine TL.done ?_
  refine NX.seq ?_
  refine WC.cond rfl ?_ ?_
  · intro hc5
    replace hF := bif_t hc5 hF
    refine WC.seq ?_
    refine WC.region ?_
    refine TL.yld rfl rfl (yld_assign rfl rfl) ?_
    refine TL.done ?_
    refine NX.seq ?_
    refine WC.ret' ?_
    refine NX.then_r ?_
    obtain rfl := Option.some.inj hF
    exact NX.end (rs := [.tmp 4]) (vs := [.bool false]) rfl ⟨rfl, trivial⟩ ⟨_, rfl, rfl, he0⟩
  · intro hc6
    replace hF := bif_f hc6 hF
    refine WC.skip' ?_
    refine NX.seq ?_
    refine WC.seq ?_
    refine WC.seq ?_
    refine WC.region ?_
    refine TL.yld rfl rfl (yld_assign rfl rfl) ?_
    refine TL.done ?_
    refine NX.seq ?_
    refine WC.block ?_
    refine WC.loop (fun m10 a wl => ∃ (i9 : Int), Kn 27 [(0, v1), (1, v3), (5, .int .i64 i9)] a ∧ Ext w wl ∧ w.heap.size ≤ wl.heap.size ∧ F_laws_eqLatchS_L1 n a0_a a1_b (fun i9 => (some true)) m10 i9 = some r) n ?_ ?_
    · intro a hK; exact ⟨0, hK.weaken ⟨rfl, rfl, rfl, trivial⟩, he0, Nat.le_refl _, hF⟩
    · rintro m10 a w7 ⟨i9, hK, he8, hz11, hF⟩
      revert hK; revert a; refine (?_ : WC _ _ _ _ _ _)
      cases m10 with
      | zero => rw [F_laws_eqLatchS_L1_z] at hF; cases hF
      | succ m10 =>
        rw [F_laws_eqLatchS_L1_s] at hF
        refine WC.seq ?_
        refine WC.seq ?_
        refine WC.region ?_
        refine TL.yld rfl rfl (yld_move rfl rfl) ?_
        refine TL.yld rfl rfl (yld_move rfl rfl) ?_
        refine TL.yld rfl rfl (ye_len (c := C_Latch) rfl Try.underlying35 rfl (slRep.old ha2 he8 (Nat.le_refl _))) ?_
        refine TL.yld rfl rfl (yld_lss rfl rfl rfl) ?_
        refine TL.done ?_
        refine NX.seq ?_
        refine WC.cond rfl ?_ ?_
        · intro hc12
          replace hF := bif_t hc12 hF
          refine WC.skip' ?_
          refine NX.seq ?_
          refine WC.seq ?_
          refine WC.block ?_
          refine WC.seq ?_
          refine WC.quiet Try.hm (by kernel_rfl) ?_
          refine QL.yld rfl rfl (Yld.qui (yld_move rfl rfl)) ?_
          refine QL.yld rfl rfl (Yld.qui (yld_move rfl rfl)) ?_
          obtain ⟨x13, hy14, hF⟩ := bsome hF
          refine QL.ye rfl rfl (ye_index (c := C_Latch) rfl Try.underlying35 cn_50 rfl rfl (slRep.old ha2 he8 (Nat.le_refl _)) hy14) ?_
          rintro _ ⟨b15, o16, us17, rfl, hib20, hr18, hcl19⟩
          have hib20 : 0 ≤ b15 ∧ b15 < w.heap.size := ⟨hib20.1, by have := hib20.2; omega⟩
          obtain rfl := C_Latch_open hr18
          refine QL.yld rfl rfl (Yld.qui (yld_loadN (us := [.int .i64 x13.Open, .int .i64 x13.Close]) rfl ag_50 rfl hcl19 cn_50)) ?_
          refine QL.yld rfl rfl (Yld.qui (yld_move rfl rfl)) ?_
          refine QL.yld rfl rfl (Yld.qui (yld_move rfl rfl)) ?_
          obtain ⟨x21, hy22, hF⟩ := bsome hF
          refine QL.ye rfl rfl (ye_index (c := C_Latch) rfl Try.underlying35 cn_50 rfl rfl (slRep.old ha4 he8 (Nat.le_refl _)) hy22) ?_
          rintro _ ⟨b23, o24, us25, rfl, hib28, hr26, hcl27⟩
          have hib28 : 0 ≤ b23 ∧ b23 < w.heap.size := ⟨hib28.1, by have := hib28.2; omega⟩
          obtain rfl := C_Latch_open hr26
          refine QL.yld rfl rfl (Yld.qui (yld_loadN (us := [.int .i64 x21.Open, .int .i64 x21.Close]) rfl ag_50 rfl hcl27 cn_50)) ?_
          obtain ⟨r29, hr30, hF⟩ := bsome hF
          refine QL.yld rfl rfl (qui_call rfl gf_91 rfl fun w' hw' => W_laws_eqLatch hr30) ?_
          refine QL.yld rfl rfl (Yld.qui (yld_not rfl rfl)) ?_
          refine QL.done fun w31 hx32 => ?_
          have he33 : Ext w w31 := Ext.trans he8 hx32
          have hz34 := (hx32).size
          refine NX.seq ?_
          refine WC.cond rfl ?_ ?_
          · intro hc35
            replace hF := bif_t hc35 hF
            refine WC.seq ?_
            refine WC.region ?_
            refine TL.yld rfl rfl (yld_assign rfl rfl) ?_
            refine TL.done ?_
            refine NX.seq ?_
            refine WC.ret' ?_
            refine NX.blk_r ?_
            refine NX.then_r ?_
            refine NX.then_r ?_
            refine NX.blk_r ?_
            refine NX.then_r ?_
            obtain rfl := Option.some.inj hF
            exact NX.end (rs := [.tmp 4]) (vs := [.bool false]) rfl ⟨rfl, trivial⟩ ⟨_, rfl, rfl, he33⟩
          · intro hc36
            replace hF := bif_f hc36 hF
            refine WC.skip' ?_
            refine NX.blk_n ?_
            refine NX.seq ?_
            refine WC.region ?_
            refine TL.yld rfl rfl (yld_move rfl rfl) ?_
            refine TL.yld rfl rfl (yld_add rfl rfl rfl) ?_
            refine TL.yld rfl rfl (yld_assign rfl rfl) ?_
            refine TL.done ?_
            refine NX.then_n ?_
            intro a hK; exact ⟨m10, Nat.lt_succ_self m10, (IntKind.wrap IntKind.i64 (i9 + 1)), hK.weaken ⟨rfl, rfl, rfl, trivial⟩, he33, (by omega), hF⟩
        · intro hc37
          replace hF := bif_f hc37 hF
          refine WC.exit' ?_
          refine NX.then_e ?_
          refine NX.then_e ?_
          refine NX.blk_hit ?_
          refine NX.seq ?_
          refine WC.seq ?_
          refine WC.region ?_
          refine TL.yld rfl rfl (yld_assign rfl rfl) ?_
          refine TL.done ?_
          refine NX.seq ?_
          refine WC.ret' ?_
          obtain rfl := Option.some.inj hF
          exact NX.end (rs := [.tmp 4]) (vs := [.bool true]) rfl ⟨rfl, trivial⟩ ⟨_, rfl, rfl, he8⟩

-- loop.example/g00861/laws.eqLatchLink
def F_laws_eqLatchLink (n : Nat) (a0_a : S_LatchLink) (a1_b : S_LatchLink) : Option Bool := (bif (a0_a.From != a1_b.From) then (some false) else (bif (a0_a.To != a1_b.To) then (some false) else (bif (a0_a.Delay != a1_b.Delay) then (some false) else (bif (a0_a.Shift != a1_b.Shift) then (some false) else (some true)))))
set_option maxHeartbeats 4000000 in
theorem W_laws_eqLatchLink {n : Nat} {a0_a : S_LatchLink} {a1_b : S_LatchLink} {r : Bool} {w : World} (hF : F_laws_eqLatchLink n a0_a a1_b = some r) :
    Calls Try.prog 92 [.agg #[.int .i64 a0_a.From, .int .i64 a0_a.To, .int .i64 a0_a.Delay, .int .i64 a0_a.Shift], .agg #[.int .i64 a1_b.From, .int .i64 a1_b.To, .int .i64 a1_b.Delay, .int .i64 a1_b.Shift]].toArray w (Ret fun u w2 => u = .bool r ∧ Ext w w2) := by
  refine calls_of Try.func92 rfl Try.ntmps92 ?_
  have he0 : Ext w w := Ext.refl w
  unfold F_laws_eqLatchLink at hF
  refine WC.seq ?_
  refine WC.region ?_
  refine TL.eff rfl rfl (eff_box rfl rfl) ?_
  rintro _ w2 ⟨b1, rfl, hn3⟩
  obtain ⟨hn3e, hn3s, hn3x, hb4⟩ := hn3
  have hb4 : Box w2 b1 [.int .i64 a0_a.From, .int .i64 a0_a.To, .int .i64 a0_a.Delay, .int .i64 a0_a.Shift] 77 := hb4
  have he6 : Ext w w2 := Ext.trans he0 hn3x
  have hz7 := (hn3x).size
  have hlo5 : w.heap.size ≤ b1 := by rw [hn3e]; exact (he0).size
  refine TL.eff rfl rfl (eff_box rfl rfl) ?_
  rintro _ w9 ⟨b8, rfl, hn10⟩
  obtain ⟨hn10e, hn10s, hn10x, hb11⟩ := hn10
  have hb11 : Box w9 b8 [.int .i64 a1_b.From, .int .i64 a1_b.To, .int .i64 a1_b.Delay, .int .i64 a1_b.Shift] 77 := hb11
  have he13 : Ext w w9 := Ext.trans he6 hn10x
  have hb4 := Box.ext hb4 hn10x
  have hz14 := (hn10x).size
  have hlo12 : w.heap.size ≤ b8 := by rw [hn10e]; exact (he6).size
  refine TL.yld rfl rfl (yld_assign rfl rfl) ?_
  refine TL.done ?_
  refine NX.seq ?_
  refine WC.seq ?_
  refine WC.seq ?_
  refine WC.region ?_
  refine TL.yld rfl rfl (yld_fieldAddr rfl fo_77_0 rfl) ?_
  refine TL.yld rfl rfl (yld_load1 0 rfl ag_2 rfl (Box.cells hb4) rfl rfl) ?_
  refine TL.yld rfl rfl (yld_fieldAddr rfl fo_77_0 rfl) ?_
  refine TL.yld rfl rfl (yld_load1 0 rfl ag_2 rfl (Box.cells hb11) rfl rfl) ?_
  refine TL.yld rfl rfl (yld_neq rfl rfl rfl) ?_
  refine TL.done ?_
  refine NX.seq ?_
  refine WC.cond rfl ?_ ?_
  · intro hc15
    replace hF := bif_t hc15 hF
    refine WC.seq ?_
    refine WC.region ?_
    refine TL.yld rfl rfl (yld_assign rfl rfl) ?_
    refine TL.done ?_
    refine NX.seq ?_
    refine WC.ret' ?_
    refine NX.then_r ?_
    obtain rfl := Option.some.inj hF
    exact NX.end (rs := [.tmp 4]) (vs := [.bool false]) rfl ⟨rfl, trivial⟩ ⟨_, rfl, rfl, he13⟩
  · intro hc16
    replace hF := bif_f hc16 hF
    refine WC.skip' ?_
    refine NX.seq ?_
    refine WC.seq ?_
    refine WC.seq ?_
    refine WC.region ?_
    refine TL.yld rfl rfl (yld_fieldAddr rfl fo_77_1 rfl) ?_
    refine TL.yld rfl rfl (yld_load1 1 rfl ag_2 rfl (Box.cells hb4) rfl rfl) ?_
    refine TL.yld rfl rfl (yld_fieldAddr rfl fo_77_1 rfl) ?_
    refine TL.yld rfl rfl (yld_load1 1 rfl ag_2 rfl (Box.cells hb11) rfl rfl) ?_
    refine TL.yld rfl rfl (yld_neq rfl rfl rfl) ?_
    refine TL.done ?_
    refine NX.seq ?_
    refine WC.cond rfl ?_ ?_
    · intro hc17
      replace hF := bif_t hc17 hF
      refine WC.seq ?_
      refine WC.region ?_
      refine TL.yld rfl rfl (yld_assign rfl rfl) ?_
      refine TL.done ?_
      refine NX.seq ?_
      refine WC.ret' ?_
      refine NX.then_r ?_
      obtain rfl := Option.some.inj hF
      exact NX.end (rs := [.tmp 4]) (vs := [.bool false]) rfl ⟨rfl, trivial⟩ ⟨_, rfl, rfl, he13⟩
    · intro hc18
      replace hF := bif_f hc18 hF
      refine WC.skip' ?_
      refine NX.seq ?_
      refine WC.seq ?_
      refine WC.seq ?_
      refine WC.region ?_
      refine TL.yld rfl rfl (yld_fieldAddr rfl fo_77_2 rfl) ?_
      refine TL.yld rfl rfl (yld_load1 2 rfl ag_2 rfl (Box.cells hb4) rfl rfl) ?_
      refine TL.yld rfl rfl (yld_fieldAddr rfl fo_77_2 rfl) ?_
      refine TL.yld rfl rfl (yld_load1 2 rfl ag_2 rfl (Box.cells hb11) rfl rfl) ?_
      refine TL.yld rfl rfl (yld_neq rfl rfl rfl) ?_
      refine TL.done ?_
      refine NX.seq ?_
      refine WC.cond rfl ?_ ?_
      · intro hc19
        replace hF := bif_t hc19 hF
        refine WC.seq ?_
        refine WC.region ?_
        refine TL.yld rfl rfl (yld_assign rfl rfl) ?_
        refine TL.done ?_
        refine NX.seq ?_
        refine WC.ret' ?_
        refine NX.then_r ?_
        obtain rfl := Option.some.inj hF
        exact NX.end (rs := [.tmp 4]) (vs := [.bool false]) rfl ⟨rfl, trivial⟩ ⟨_, rfl, rfl, he13⟩
      · intro hc20
        replace hF := bif_f hc20 hF
        refine WC.skip' ?_
        refine NX.seq ?_
        refine WC.seq ?_
        refine WC.seq ?_
        refine WC.region ?_
        refine TL.yld rfl rfl (yld_fieldAddr rfl fo_77_3 rfl) ?_
        refine TL.yld rfl rfl (yld_load1 3 rfl ag_2 rfl (Box.cells hb4) rfl rfl) ?_
        refine TL.yld rfl rfl (yld_fieldAddr rfl fo_77_3 rfl) ?_
        refine TL.yld rfl rfl (yld_load1 3 rfl ag_2 rfl (Box.cells hb11) rfl rfl) ?_
        refine TL.yld rfl rfl (yld_neq rfl rfl rfl) ?_
        refine TL.done ?_
        refine NX.seq ?_
        refine WC.cond rfl ?_ ?_
        · intro hc21
          replace hF := bif_t hc21 hF
          refine WC.seq ?_
          refine WC.region ?_
          refine TL.yld rfl rfl (yld_assign rfl rfl) ?_
          refine TL.done ?_
          refine NX.seq ?_
          refine WC.ret' ?_
          refine NX.then_r ?_
          obtain rfl := Option.some.inj hF
          exact NX.end (rs := [.tmp 4]) (vs := [.bool false]) rfl ⟨rfl, trivial⟩ ⟨_, rfl, rfl, he13⟩
        · intro hc22
          replace hF := bif_f hc22 hF
          refine WC.skip' ?_
          refine NX.seq ?_
          refine WC.seq ?_
          refine WC.region ?_
          refine TL.yld rfl rfl (yld_assign rfl rfl) ?_
          refine TL.done ?_
          refine NX.seq ?_
          refine WC.ret' ?_
          obtain rfl := Option.some.inj hF
          exact NX.end (rs := [.tmp 4]) (vs := [.bool true]) rfl ⟨rfl, trivial⟩ ⟨_, rfl, rfl, he13⟩

-- loop.example/g00861/laws.eqLatchLinkS
def F_laws_eqLatchLinkS_L1 (n : Nat) (a0_a : List S_LatchLink) (a1_b : List S_LatchLink) (k0 : Int → Option Bool) : Nat → Int → Option Bool
  | 0 => fun _ => none
  | m + 1 => fun i9 => (bif decide (i9 < (a0_a.length : Int)) then (Option.bind (getI a0_a i9) fun x11 => (Option.bind (getI a1_b i9) fun x19 => (Option.bind (F_laws_eqLatchLink n x11 x19) fun r27 => (bif (!r27) then (some false) else (F_laws_eqLatchLinkS_L1 n a0_a a1_b k0 m (IntKind.wrap IntKind.i64 (i9 + 1))))))) else (k0 i9))
theorem F_laws_eqLatchLinkS_L1_z (n : Nat) (a0_a : List S_LatchLink) (a1_b : List S_LatchLink) (k0 : Int → Option Bool) (i9 : Int) : F_laws_eqLatchLinkS_L1 n a0_a a1_b k0 0 i9 = none := rfl
theorem F_laws_eqLatchLinkS_L1_s (m : Nat) (n : Nat) (a0_a : List S_LatchLink) (a1_b : List S_LatchLink) (k0 : Int → Option Bool) (i9 : Int) : F_laws_eqLatchLinkS_L1 n a0_a a1_b k0 (m + 1) i9 = (bif decide (i9 < (a0_a.length : Int)) then (Option.bind (getI a0_a i9) fun x11 => (Option.bind (getI a1_b i9) fun x19 => (Option.bind (F_laws_eqLatchLink n x11 x19) fun r27 => (bif (!r27) then (some false) else (F_laws_eqLatchLinkS_L1 n a0_a a1_b k0 m (IntKind.wrap IntKind.i64 (i9 + 1))))))) else (k0 i9)) := rfl

def F_laws_eqLatchLinkS (n : Nat) (a0_a : List S_LatchLink) (a1_b : List S_LatchLink) : Option Bool := (bif (((a0_a.length : Int)) != ((a1_b.length : Int))) then (some false) else (F_laws_eqLatchLinkS_L1 n a0_a a1_b (fun i9 => (some true)) n 0))
set_option maxHeartbeats 4000000 in
theorem W_laws_eqLatchLinkS {n : Nat} {a0_a : List S_LatchLink} {a1_b : List S_LatchLink} {r : Bool} {w : World} {v1 : Value} {v3 : Value} (hF : F_laws_eqLatchLinkS n a0_a a1_b = some r) (ha2 : slRep C_LatchLink w (Iv 0 w.heap.size) a0_a v1) (ha4 : slRep C_LatchLink w (Iv 0 w.heap.size) a1_b v3) :
    Calls Try.prog 63 [v1, v3].toArray w (Ret fun u w2 => u = .bool r ∧ Ext w w2) := by
  refine calls_of Try.func63 rfl Try.ntmps63 ?_
  have he0 : Ext w w := Ext.refl w
  unfold F_laws_eqLatchLinkS at hF
  refine WC.seq ?_
  refine WC.region ?_
  refine TL.yld rfl rfl (yld_assign rfl rfl) ?_
  refine TL.done ?_
  refine NX.seq ?_
  refine WC.seq ?_
  refine WC.seq ?_
  refine WC.region ?_
  refine TL.yld rfl rfl (yld_move rfl rfl) ?_
  refine TL.yld rfl rfl (ye_len (c := C_LatchLink) rfl Try.underlying36 rfl (slRep.old ha2 he0 (Nat.le_refl _))) ?_
  refine TL.yld rfl rfl (yld_move rfl rfl) ?_
  refine TL.yld rfl rfl (ye_len (c := C_LatchLink) rfl Try.underlying36 rfl (slRep.old ha4 he0 (Nat.le_refl _))) ?_
  refine TL.yld rfl rfl (yld_neq rfl rfl rfl) ?_
  refine TL.done ?_
  refine NX.seq ?_
  refine WC.cond rfl ?_ ?_
  · intro hc5
    replace hF := bif_t hc5 hF
    refine WC.seq ?_
    refine WC.region ?_
    refine TL.yld rfl rfl (yld_assign rfl rfl) ?_
    refine TL.done ?_
    refine NX.seq ?_
    refine WC.ret' ?_
    refine NX.then_r ?_
    obtain rfl := Option.some.inj hF
    exact NX.end (rs := [.tmp 4]) (vs := [.bool false]) rfl ⟨rfl, trivial⟩ ⟨_, rfl, rfl, he0⟩
  · intro hc6
    replace hF := bif_f hc6 hF
    refine WC.skip' ?_
    refine NX.seq ?_
    refine WC.seq ?_
    refine WC.seq ?_
    refine WC.region ?_
    refine TL.yld rfl rfl (yld_assign rfl rfl) ?_
    refine TL.done ?_
    refine NX.seq ?_
    refine WC.block ?_
    refine WC.loop (fun m10 a wl => ∃ (i9 : Int), Kn 27 [(0, v1), (1, v3), (5, .int .i64 i9)] a ∧ Ext w wl ∧ w.heap.size ≤ wl.heap.size ∧ F_laws_eqLatchLinkS_L1 n a0_a a1_b (fun i9 => (some true)) m10 i9 = some r) n ?_ ?_
    · intro a hK; exact ⟨0, hK.weaken ⟨rfl, rfl, rfl, trivial⟩, he0, Nat.le_refl _, hF⟩
    · rintro m10 a w7 ⟨i9, hK, he8, hz11, hF⟩
      revert hK; revert a; refine (?_ : WC _ _ _ _ _ _)
      cases m10 with
      | zero => rw [F_laws_eqLatchLinkS_L1_z] at hF; cases hF
      | succ m10 =>
        rw [F_laws_eqLatchLinkS_L1_s] at hF
        refine WC.seq ?_
        refine WC.seq ?_
        refine WC.region ?_
        refine TL.yld rfl rfl (yld_move rfl rfl) ?_
        refine TL.yld rfl rfl (yld_move rfl rfl) ?_
        refine TL.yld rfl rfl (ye_len (c := C_LatchLink) rfl Try.underlying36 rfl (slRep.old ha2 he8 (Nat.le_refl _))) ?_
        refine TL.yld rfl rfl (yld_lss rfl rfl rfl) ?_
        refine TL.done ?_
        refine NX.seq ?_
        refine WC.cond rfl ?_ ?_
        · intro hc12
          replace hF := bif_t hc12 hF
          refine WC.skip' ?_
          refine NX.seq ?_
          refine WC.seq ?_
          refine WC.block ?_
          refine WC.seq ?_
          refine WC.quiet Try.hm (by kernel_rfl) ?_
          refine QL.yld rfl rfl (Yld.qui (yld_move rfl rfl)) ?_
          refine QL.yld rfl rfl (Yld.qui (yld_move rfl rfl)) ?_
          obtain ⟨x13, hy14, hF⟩ := bsome hF
          refine QL.ye rfl rfl (ye_index (c := C_LatchLink) rfl Try.underlying36 cn_77 rfl rfl (slRep.old ha2 he8 (Nat.le_refl _)) hy14) ?_
          rintro _ ⟨b15, o16, us17, rfl, hib20, hr18, hcl19⟩
          have hib20 : 0 ≤ b15 ∧ b15 < w.heap.size := ⟨hib20.1, by have := hib20.2; omega⟩
          obtain rfl := C_LatchLink_open hr18
          refine QL.yld rfl rfl (Yld.qui (yld_loadN (us := [.int .i64 x13.From, .int .i64 x13.To, .int .i64 x13.Delay, .int .i64 x13.Shift]) rfl ag_77 rfl hcl19 cn_77)) ?_
          refine QL.yld rfl rfl (Yld.qui (yld_move rfl rfl)) ?_
          refine QL.yld rfl rfl (Yld.qui (yld_move rfl rfl)) ?_
          obtain ⟨x21, hy22, hF⟩ := bsome hF
          refine QL.ye rfl rfl (ye_index (c := C_LatchLink) rfl Try.underlying36 cn_77 rfl rfl (slRep.old ha4 he8 (Nat.le_refl _)) hy22) ?_
          rintro _ ⟨b23, o24, us25, rfl, hib28, hr26, hcl27⟩
          have hib28 : 0 ≤ b23 ∧ b23 < w.heap.size := ⟨hib28.1, by have := hib28.2; omega⟩
          obtain rfl := C_LatchLink_open hr26
          refine QL.yld rfl rfl (Yld.qui (yld_loadN (us := [.int .i64 x21.From, .int .i64 x21.To, .int .i64 x21.Delay, .int .i64 x21.Shift]) rfl ag_77 rfl hcl27 cn_77)) ?_
          obtain ⟨r29, hr30, hF⟩ := bsome hF
          refine QL.yld rfl rfl (qui_call rfl gf_92 rfl fun w' hw' => W_laws_eqLatchLink hr30) ?_
          refine QL.yld rfl rfl (Yld.qui (yld_not rfl rfl)) ?_
          refine QL.done fun w31 hx32 => ?_
          have he33 : Ext w w31 := Ext.trans he8 hx32
          have hz34 := (hx32).size
          refine NX.seq ?_
          refine WC.cond rfl ?_ ?_
          · intro hc35
            replace hF := bif_t hc35 hF
            refine WC.seq ?_
            refine WC.region ?_
            refine TL.yld rfl rfl (yld_assign rfl rfl) ?_
            refine TL.done ?_
            refine NX.seq ?_
            refine WC.ret' ?_
            refine NX.blk_r ?_
            refine NX.then_r ?_
            refine NX.then_r ?_
            refine NX.blk_r ?_
            refine NX.then_r ?_
            obtain rfl := Option.some.inj hF
            exact NX.end (rs := [.tmp 4]) (vs := [.bool false]) rfl ⟨rfl, trivial⟩ ⟨_, rfl, rfl, he33⟩
          · intro hc36
            replace hF := bif_f hc36 hF
            refine WC.skip' ?_
            refine NX.blk_n ?_
            refine NX.seq ?_
            refine WC.region ?_
            refine TL.yld rfl rfl (yld_move rfl rfl) ?_
            refine TL.yld rfl rfl (yld_add rfl rfl rfl) ?_
            refine TL.yld rfl rfl (yld_assign rfl rfl) ?_
            refine TL.done ?_
            refine NX.then_n ?_
            intro a hK; exact ⟨m10, Nat.lt_succ_self m10, (IntKind.wrap IntKind.i64 (i9 + 1)), hK.weaken ⟨rfl, rfl, rfl, trivial⟩, he33, (by omega), hF⟩
        · intro hc37
          replace hF := bif_f hc37 hF
          refine WC.exit' ?_
          refine NX.then_e ?_
          refine NX.then_e ?_
          refine NX.blk_hit ?_
          refine NX.seq ?_
          refine WC.seq ?_
          refine WC.region ?_
          refine TL.yld rfl rfl (yld_assign rfl rfl) ?_
          refine TL.done ?_
          refine NX.seq ?_
          refine WC.ret' ?_
          obtain rfl := Option.some.inj hF
          exact NX.end (rs := [.tmp 4]) (vs := [.bool true]) rfl ⟨rfl, trivial⟩ ⟨_, rfl, rfl, he8⟩

-- loop.example/g00861/laws.eqLatchSystem
def F_laws_eqLatchSystem (n : Nat) (a0_a : S_LatchSystem) (a1_b : S_LatchSystem) : Option Bool := (Option.bind (F_laws_eqLatchS n a0_a.Latches a1_b.Latches) fun r23 => (bif (!r23) then (some false) else (Option.bind (F_laws_eqLatchLinkS n a0_a.Links a1_b.Links) fun r31 => (bif (!r31) then (some false) else (some true)))))
set_option maxHeartbeats 4000000 in
theorem W_laws_eqLatchSystem {n : Nat} {a0_a : S_LatchSystem} {a1_b : S_LatchSystem} {r : Bool} {w : World} {v1 : Value} {v3 : Value} {v5 : Value} {v7 : Value} (hF : F_laws_eqLatchSystem n a0_a a1_b = some r) (ha2 : slRep C_Latch w (Iv 0 w.heap.size) a0_a.Latches v1) (ha4 : slRep C_LatchLink w (Iv 0 w.heap.size) a0_a.Links v3) (ha6 : slRep C_Latch w (Iv 0 w.heap.size) a1_b.Latches v5) (ha8 : slRep C_LatchLink w (Iv 0 w.heap.size) a1_b.Links v7) :
    Calls Try.prog 22 [.agg #[v1, v3], .agg #[v5, v7]].toArray w (Ret fun u w2 => u = .bool r ∧ Ext w w2) := by
  refine calls_of Try.func22 rfl Try.ntmps22 ?_
  have he0 : Ext w w := Ext.refl w
  unfold F_laws_eqLatchSystem at hF
  refine WC.seq ?_
  refine WC.region ?_
  refine TL.eff rfl rfl (eff_box rfl rfl) ?_
  rintro _ w10 ⟨b9, rfl, hn11⟩
  obtain ⟨hn11e, hn11s, hn11x, hb12⟩ := hn11
  have hb12 : Box w10 b9 [v1, v3] 38 := hb12
  have he14 : Ext w w10 := Ext.trans he0 hn11x
  have hz15 := (hn11x).size
  have hlo13 : w.heap.size ≤ b9 := by rw [hn11e]; exact (he0).size
  refine TL.eff rfl rfl (eff_box rfl rfl) ?_
  rintro _ w17 ⟨b16, rfl, hn18⟩
  obtain ⟨hn18e, hn18s, hn18x, hb19⟩ := hn18
  have hb19 : Box w17 b16 [v5, v7] 38 := hb19
  have he21 : Ext w w17 := Ext.trans he14 hn18x
  have hb12 := Box.ext hb12 hn18x
  have hz22 := (hn18x).size
  have hlo20 : w.heap.size ≤ b16 := by rw [hn18e]; exact (he14).size
  refine TL.yld rfl rfl (yld_assign rfl rfl) ?_
  refine TL.done ?_
  refine NX.seq ?_
  refine WC.seq ?_
  refine WC.seq ?_
  refine WC.region ?_
  refine TL.yld rfl rfl (yld_fieldAddr rfl fo_38_0 rfl) ?_
  refine TL.yld rfl rfl (yld_load1 0 rfl ag_35 rfl (Box.cells hb12) rfl rfl) ?_
  refine TL.yld rfl rfl (yld_fieldAddr rfl fo_38_0 rfl) ?_
  refine TL.yld rfl rfl (yld_load1 0 rfl ag_35 rfl (Box.cells hb19) rfl rfl) ?_
  obtain ⟨r23, hr24, hF⟩ := bsome hF
  refine TL.eff rfl rfl (eff_call rfl gf_62 rfl (W_laws_eqLatchS hr24 ((slRep.old ha2 he21 (Nat.le_refl _)).wide (Nat.le_refl _) (he21).size) ((slRep.old ha6 he21 (Nat.le_refl _)).wide (Nat.le_refl _) (he21).size))) ?_
  rintro _ w25 ⟨rfl, hx26⟩
  have he27 : Ext w w25 := Ext.trans he21 hx26
  have hb12 := Box.ext hb12 hx26
  have hb19 := Box.ext hb19 hx26
  have hz28 := (hx26).size
  refine TL.yld rfl rfl (yld_not rfl rfl) ?_
  refine TL.done ?_
  refine NX.seq ?_
  refine WC.cond rfl ?_ ?_
  · intro hc29
    replace hF := bif_t hc29 hF
    refine WC.seq ?_
    refine WC.region ?_
    refine TL.yld rfl rfl (yld_assign rfl rfl) ?_
    refine TL.done ?_
    refine NX.seq ?_
    refine WC.ret' ?_
    refine NX.then_r ?_
    obtain rfl := Option.some.inj hF
    exact NX.end (rs := [.tmp 4]) (vs := [.bool false]) rfl ⟨rfl, trivial⟩ ⟨_, rfl, rfl, he27⟩
  · intro hc30
    replace hF := bif_f hc30 hF
    refine WC.skip' ?_
    refine NX.seq ?_
    refine WC.seq ?_
    refine WC.seq ?_
    refine WC.region ?_
    refine TL.yld rfl rfl (yld_fieldAddr rfl fo_38_1 rfl) ?_
    refine TL.yld rfl rfl (yld_load1 1 rfl ag_36 rfl (Box.cells hb12) rfl rfl) ?_
    refine TL.yld rfl rfl (yld_fieldAddr rfl fo_38_1 rfl) ?_
    refine TL.yld rfl rfl (yld_load1 1 rfl ag_36 rfl (Box.cells hb19) rfl rfl) ?_
    obtain ⟨r31, hr32, hF⟩ := bsome hF
    refine TL.eff rfl rfl (eff_call rfl gf_63 rfl (W_laws_eqLatchLinkS hr32 ((slRep.old ha4 he27 (Nat.le_refl _)).wide (Nat.le_refl _) (he27).size) ((slRep.old ha8 he27 (Nat.le_refl _)).wide (Nat.le_refl _) (he27).size))) ?_
    rintro _ w33 ⟨rfl, hx34⟩
    have he35 : Ext w w33 := Ext.trans he27 hx34
    have hb12 := Box.ext hb12 hx34
    have hb19 := Box.ext hb19 hx34
    have hz36 := (hx34).size
    refine TL.yld rfl rfl (yld_not rfl rfl) ?_
    refine TL.done ?_
    refine NX.seq ?_
    refine WC.cond rfl ?_ ?_
    · intro hc37
      replace hF := bif_t hc37 hF
      refine WC.seq ?_
      refine WC.region ?_
      refine TL.yld rfl rfl (yld_assign rfl rfl) ?_
      refine TL.done ?_
      refine NX.seq ?_
      refine WC.ret' ?_
      refine NX.then_r ?_
      obtain rfl := Option.some.inj hF
      exact NX.end (rs := [.tmp 4]) (vs := [.bool false]) rfl ⟨rfl, trivial⟩ ⟨_, rfl, rfl, he35⟩
    · intro hc38
      replace hF := bif_f hc38 hF
      refine WC.skip' ?_
      refine NX.seq ?_
      refine WC.seq ?_
      refine WC.region ?_
      refine TL.yld rfl rfl (yld_assign rfl rfl) ?_
      refine TL.done ?_
      refine NX.seq ?_
      refine WC.ret' ?_
      obtain rfl := Option.some.inj hF
      exact NX.end (rs := [.tmp 4]) (vs := [.bool true]) rfl ⟨rfl, trivial⟩ ⟨_, rfl, rfl, he35⟩

-- loop.example/g00861/impl.length[loop.example/g00861/impl.Latch]
def F_impl_length_impl_Latch (n : Nat) (a0_list : List S_Latch) : Option Int := (some ((a0_list.length : Int)))
set_option maxHeartbeats 4000000 in
theorem W_impl_length_impl_Latch {n : Nat} {a0_list : List S_Latch} {r : Int} {w : World} {v1 : Value} (hF : F_impl_length_impl_Latch n a0_list = some r) (ha2 : slRep C_Latch w (Iv 0 w.heap.size) a0_list v1) :
    Calls Try.prog 60 [v1].toArray w (Ret fun u w2 => u = .int .i64 r ∧ Ext w w2) := by
  refine calls_of Try.func60 rfl Try.ntmps60 ?_
  have he0 : Ext w w := Ext.refl w
  unfold F_impl_length_impl_Latch at hF
  refine WC.seq ?_
  refine WC.region ?_
  refine TL.yld rfl rfl (yld_assign rfl rfl) ?_
  refine TL.done ?_
  refine NX.seq ?_
  refine WC.seq ?_
  refine WC.region ?_
  refine TL.yld rfl rfl (yld_move rfl rfl) ?_
  refine TL.yld rfl rfl (ye_len (c := C_Latch) rfl Try.underlying35 rfl (slRep.old ha2 he0 (Nat.le_refl _))) ?_
  refine TL.yld rfl rfl (yld_assign rfl rfl) ?_
  refine TL.done ?_
  refine NX.seq ?_
  refine WC.ret' ?_
  obtain rfl := Option.some.inj hF
  exact NX.end (rs := [.tmp 2]) (vs := [.int .i64 ((a0_list.length : Int))]) rfl ⟨rfl, trivial⟩ ⟨_, rfl, rfl, he0⟩

-- loop.example/g00861/impl.within
def F_impl_within (n : Nat) (a0_x : Int) (a1_low : Int) (a2_high : Int) : Option Bool := (some (((decide (a0_x ≥ a1_low)) && (decide (a0_x ≤ a2_high)))))
set_option maxHeartbeats 4000000 in
theorem W_impl_within {n : Nat} {a0_x : Int} {a1_low : Int} {a2_high : Int} {r : Bool} {w : World} (hF : F_impl_within n a0_x a1_low a2_high = some r) :
    Calls Try.prog 61 [.int .i64 a0_x, .int .i64 a1_low, .int .i64 a2_high].toArray w (Ret fun u w2 => u = .bool r ∧ Ext w w2) := by
  refine calls_of Try.func61 rfl Try.ntmps61 ?_
  have he0 : Ext w w := Ext.refl w
  unfold F_impl_within at hF
  refine WC.seq ?_
  refine WC.region ?_
  refine TL.yld rfl rfl (yld_assign rfl rfl) ?_
  refine TL.done ?_
  refine NX.seq ?_
  refine WC.seq ?_
  refine WC.region ?_
  refine TL.yld rfl rfl (yld_move rfl rfl) ?_
  refine TL.yld rfl rfl (yld_move rfl rfl) ?_
  refine TL.yld rfl rfl (yld_geq rfl rfl rfl) ?_
  refine TL.yld rfl rfl (yld_move rfl rfl) ?_
  refine TL.cut 4 [(14, .bool (((decide (a0_x ≥ a1_low)) && (decide (a0_x ≤ a2_high)))))] (fun w' => Ext w w') ?_ ?_
  · rcases Bool.eq_false_or_eq_true (decide (a0_x ≥ a1_low)) with hg1 | hg1
    ·
      refine TL.gy (j := 3) (t := 10) rfl rfl rfl hg1 rfl (yld_move rfl rfl) ?_
      refine TL.gy (j := 3) (t := 10) rfl rfl rfl hg1 rfl (yld_move rfl rfl) ?_
      refine TL.gy (j := 3) (t := 10) rfl rfl rfl hg1 rfl (yld_leq rfl rfl rfl) ?_
      refine TL.yld rfl rfl (yld_and_t rfl rfl hg1 rfl) ?_
      exact TL.nil fun a h => ⟨h.weaken ⟨rfl, trivial⟩, Ext.refl _⟩
    ·
      refine TL.gnu (j := 3) (t := 10) rfl rfl rfl hg1 rfl ?_
      refine TL.gnu (j := 3) (t := 10) rfl rfl rfl hg1 rfl ?_
      refine TL.gnu (j := 3) (t := 10) rfl rfl rfl hg1 rfl ?_
      refine TL.yld rfl rfl (yld_and_f (b2 := decide (a0_x ≤ a2_high)) rfl rfl hg1 rfl) ?_
      exact TL.nil fun a h => ⟨h.weaken ⟨rfl, trivial⟩, Ext.refl _⟩
  intro w2 hx3
  have he4 : Ext w w2 := Ext.trans he0 hx3
  have hz5 := (hx3).size
  refine TL.yld rfl rfl (yld_assign rfl rfl) ?_
  refine TL.done ?_
  refine NX.seq ?_
  refine WC.ret' ?_
  obtain rfl := Option.some.inj hF
  exact NX.end (rs := [.tmp 6]) (vs := [.bool (((decide (a0_x ≥ a1_low)) && (decide (a0_x ≤ a2_high))))]) rfl ⟨rfl, trivial⟩ ⟨_, rfl, rfl, he4⟩

-- loop.example/g00861/impl.IsLatchSystem
def F_impl_IsLatchSystem_L2 (n : Nat) (a0_s : S_LatchSystem) (r16 : Int) (k2 : Int → Option Bool) : Nat → Int → Option Bool
  | 0 => fun _ => none
  | m + 1 => fun i24 => (bif decide (i24 < (a0_s.Links.length : Int)) then (Option.bind (getI a0_s.Links i24) fun x27 => (Option.bind (F_impl_within n x27.From 0 (IntKind.wrap IntKind.i64 (r16 - 1))) fun r47 => (Option.bind (bif (!r47) then (some true) else (Option.bind (F_impl_within n x27.To 0 (IntKind.wrap IntKind.i64 (r16 - 1))) fun r53 => (some (!r53)))) fun c53 => (Option.bind (bif c53 then (some true) else (Option.bind (F_impl_within n x27.Delay 0 100000) fun r66 => (some (!r66)))) fun c66 => (Option.bind (bif c66 then (some true) else (Option.bind (F_impl_within n x27.Shift 0 100000) fun r79 => (some (!r79)))) fun c79 => (bif c79 then (some false) else (F_impl_IsLatchSystem_L2 n a0_s r16 k2 m (IntKind.wrap IntKind.i64 (i24 + 1))))))))) else (k2 i24))
theorem F_impl_IsLatchSystem_L2_z (n : Nat) (a0_s : S_LatchSystem) (r16 : Int) (k2 : Int → Option Bool) (i24 : Int) : F_impl_IsLatchSystem_L2 n a0_s r16 k2 0 i24 = none := rfl
theorem F_impl_IsLatchSystem_L2_s (m : Nat) (n : Nat) (a0_s : S_LatchSystem) (r16 : Int) (k2 : Int → Option Bool) (i24 : Int) : F_impl_IsLatchSystem_L2 n a0_s r16 k2 (m + 1) i24 = (bif decide (i24 < (a0_s.Links.length : Int)) then (Option.bind (getI a0_s.Links i24) fun x27 => (Option.bind (F_impl_within n x27.From 0 (IntKind.wrap IntKind.i64 (r16 - 1))) fun r47 => (Option.bind (bif (!r47) then (some true) else (Option.bind (F_impl_within n x27.To 0 (IntKind.wrap IntKind.i64 (r16 - 1))) fun r53 => (some (!r53)))) fun c53 => (Option.bind (bif c53 then (some true) else (Option.bind (F_impl_within n x27.Delay 0 100000) fun r66 => (some (!r66)))) fun c66 => (Option.bind (bif c66 then (some true) else (Option.bind (F_impl_within n x27.Shift 0 100000) fun r79 => (some (!r79)))) fun c79 => (bif c79 then (some false) else (F_impl_IsLatchSystem_L2 n a0_s r16 k2 m (IntKind.wrap IntKind.i64 (i24 + 1))))))))) else (k2 i24)) := rfl

def F_impl_IsLatchSystem_L1 (a0_s : S_LatchSystem) (k0 : Int → Option Bool) : Nat → Int → Option Bool
  | 0 => fun _ => none
  | m + 1 => fun i14 => (bif decide (i14 < (a0_s.Latches.length : Int)) then (Option.bind (getI a0_s.Latches i14) fun x17 => (bif ((((decide (x17.Open < 0)) || (decide (x17.Open > x17.Close)))) || (decide (x17.Close > 100000))) then (some false) else (F_impl_IsLatchSystem_L1 a0_s k0 m (IntKind.wrap IntKind.i64 (i14 + 1))))) else (k0 i14))
theorem F_impl_IsLatchSystem_L1_z (a0_s : S_LatchSystem) (k0 : Int → Option Bool) (i14 : Int) : F_impl_IsLatchSystem_L1 a0_s k0 0 i14 = none := rfl
theorem F_impl_IsLatchSystem_L1_s (m : Nat) (a0_s : S_LatchSystem) (k0 : Int → Option Bool) (i14 : Int) : F_impl_IsLatchSystem_L1 a0_s k0 (m + 1) i14 = (bif decide (i14 < (a0_s.Latches.length : Int)) then (Option.bind (getI a0_s.Latches i14) fun x17 => (bif ((((decide (x17.Open < 0)) || (decide (x17.Open > x17.Close)))) || (decide (x17.Close > 100000))) then (some false) else (F_impl_IsLatchSystem_L1 a0_s k0 m (IntKind.wrap IntKind.i64 (i14 + 1))))) else (k0 i14)) := rfl

def F_impl_IsLatchSystem (n : Nat) (a0_s : S_LatchSystem) : Option Bool := (F_impl_IsLatchSystem_L1 a0_s (fun i14 => (Option.bind (F_impl_length_impl_Latch n a0_s.Latches) fun r16 => (F_impl_IsLatchSystem_L2 n a0_s r16 (fun i24 => (some (((decide (r16 ≤ 12)) && (decide ((a0_s.Links.length : Int) ≤ 60)))))) n 0))) n 0)
set_option maxHeartbeats 4000000 in
theorem W_impl_IsLatchSystem {n : Nat} {a0_s : S_LatchSystem} {r : Bool} {w : World} {v1 : Value} {v3 : Value} (hF : F_impl_IsLatchSystem n a0_s = some r) (ha2 : slRep C_Latch w (Iv 0 w.heap.size) a0_s.Latches v1) (ha4 : slRep C_LatchLink w (Iv 0 w.heap.size) a0_s.Links v3) :
    Calls Try.prog 21 [.agg #[v1, v3]].toArray w (Ret fun u w2 => u = .bool r ∧ Ext w w2) := by
  refine calls_of Try.func21 rfl Try.ntmps21 ?_
  have he0 : Ext w w := Ext.refl w
  unfold F_impl_IsLatchSystem at hF
  refine WC.seq ?_
  refine WC.region ?_
  refine TL.eff rfl rfl (eff_box rfl rfl) ?_
  rintro _ w6 ⟨b5, rfl, hn7⟩
  obtain ⟨hn7e, hn7s, hn7x, hb8⟩ := hn7
  have hb8 : Box w6 b5 [v1, v3] 38 := hb8
  have he10 : Ext w w6 := Ext.trans he0 hn7x
  have hz11 := (hn7x).size
  have hlo9 : w.heap.size ≤ b5 := by rw [hn7e]; exact (he0).size
  refine TL.yld rfl rfl (yld_assign rfl rfl) ?_
  refine TL.done ?_
  refine NX.seq ?_
  refine WC.seq ?_
  refine WC.seq ?_
  refine WC.region ?_
  refine TL.yld rfl rfl (yld_fieldAddr rfl fo_38_0 rfl) ?_
  refine TL.yld rfl rfl (yld_load1 0 rfl ag_35 rfl (Box.cells hb8) rfl rfl) ?_
  refine TL.yld rfl rfl (ye_len (c := C_Latch) rfl Try.underlying35 rfl (slRep.old ha2 he10 (Nat.le_refl _))) ?_
  refine TL.yld rfl rfl (yld_move rfl rfl) ?_
  refine TL.done ?_
  refine NX.seq ?_
  refine WC.block ?_
  refine WC.loop (fun m16 a wl => ∃ (i14 : Int), Kn 76 [(1, .pointer (some ⟨b5, 0, none⟩)), (9, v1), (10, .int .i64 ((a0_s.Latches.length : Int))), (11, .int .i64 i14)] a ∧ Ext w wl ∧ w6.heap.size ≤ wl.heap.size ∧ Box wl b5 [v1, v3] 38 ∧ F_impl_IsLatchSystem_L1 a0_s (fun i14 => (Option.bind (F_impl_length_impl_Latch n a0_s.Latches) fun r16 => (F_impl_IsLatchSystem_L2 n a0_s r16 (fun i24 => (some (((decide (r16 ≤ 12)) && (decide ((a0_s.Links.length : Int) ≤ 60)))))) n 0))) m16 i14 = some r) n ?_ ?_
  · intro a hK; exact ⟨0, hK.weaken ⟨rfl, rfl, rfl, rfl, trivial⟩, he10, Nat.le_refl _, hb8, hF⟩
  · rintro m16 a w12 ⟨i14, hK, he13, hz17, hb15, hF⟩
    revert hK; revert a; refine (?_ : WC _ _ _ _ _ _)
    cases m16 with
    | zero => rw [F_impl_IsLatchSystem_L1_z] at hF; cases hF
    | succ m16 =>
      rw [F_impl_IsLatchSystem_L1_s] at hF
      refine WC.seq ?_
      refine WC.region ?_
      refine TL.yld rfl rfl (yld_lss rfl rfl rfl) ?_
      refine TL.done ?_
      refine NX.seq ?_
      refine WC.seq ?_
      refine WC.cond rfl ?_ ?_
      · intro hc18
        replace hF := bif_t hc18 hF
        refine WC.skip' ?_
        refine NX.seq ?_
        refine WC.seq ?_
        refine WC.block ?_
        refine WC.seq ?_
        refine WC.region ?_
        obtain ⟨x19, hy20, hF⟩ := bsome hF
        refine TL.ye rfl rfl (ye_index (c := C_Latch) rfl Try.underlying35 cn_50 rfl rfl (slRep.old ha2 he13 (Nat.le_refl _)) hy20) ?_
        rintro _ ⟨b21, o22, us23, rfl, hib26, hr24, hcl25⟩
        have hib26 : 0 ≤ b21 ∧ b21 < w.heap.size := ⟨hib26.1, by have := hib26.2; omega⟩
        obtain rfl := C_Latch_open hr24
        refine TL.yld rfl rfl (yld_loadN (us := [.int .i64 x19.Open, .int .i64 x19.Close]) rfl ag_50 rfl hcl25 cn_50) ?_
        refine TL.eff rfl rfl (eff_alloc rfl zn_50) ?_
        rintro _ w28 ⟨b27, rfl, hn29⟩
        obtain ⟨hn29e, hn29s, hn29x, hb30⟩ := hn29
        have hb30 : Box w28 b27 [.int .i64 0, .int .i64 0] 50 := hb30
        have he32 : Ext w w28 := Ext.trans he13 hn29x
        have hb15 := Box.ext hb15 hn29x
        have hz33 := (hn29x).size
        have hlo31 : w.heap.size ≤ b27 := by rw [hn29e]; exact (he13).size
        refine TL.eff rfl rfl (eff_store rfl rfl rfl hb30 cn_50 rfl rfl) ?_
        rintro _ w34 ⟨hu35, hb36⟩
        have he37 : Ext w w34 := Below.trans he32 (Upd.below hu35 (by omega))
        have hb15 := Box.upd hb15 hu35 (by omega)
        have hz38 := (hu35).size
        have hb30 : Box w34 b27 [.int .i64 x19.Open, .int .i64 x19.Close] 50 := hb36
        refine TL.done ?_
        refine NX.seq ?_
        refine WC.seq ?_
        refine WC.region ?_
        refine TL.yld rfl rfl (yld_fieldAddr rfl fo_50_0 rfl) ?_
        refine TL.yld rfl rfl (yld_load1 0 rfl ag_2 rfl (Box.cells hb30) rfl rfl) ?_
        refine TL.yld rfl rfl (yld_lss rfl rfl rfl) ?_
        refine TL.yld rfl rfl (yld_move rfl rfl) ?_
        refine TL.cut 6 [(1, .pointer (some ⟨b5, 0, none⟩)), (4, .pointer (some ⟨b27, 0, none⟩)), (9, v1), (10, .int .i64 ((a0_s.Latches.length : Int))), (11, .int .i64 i14), (24, .bool (((decide (x19.Open < 0)) || (decide (x19.Open > x19.Close)))))] (fun w' => Ext w34 w') ?_ ?_
        · rcases Bool.eq_false_or_eq_true (decide (x19.Open < 0)) with hg39 | hg39
          ·
            refine TL.gnu (j := 3) (t := 18) rfl rfl rfl hg39 rfl ?_
            refine TL.gnu (j := 3) (t := 18) rfl rfl rfl hg39 rfl ?_
            refine TL.gnu (j := 3) (t := 18) rfl rfl rfl hg39 rfl ?_
            refine TL.gnu (j := 3) (t := 18) rfl rfl rfl hg39 rfl ?_
            refine TL.gnu (j := 3) (t := 18) rfl rfl rfl hg39 rfl ?_
            refine TL.yld rfl rfl (yld_or_t (b2 := decide (x19.Open > x19.Close)) rfl rfl hg39 rfl) ?_
            exact TL.nil fun a h => ⟨h.weaken ⟨rfl, rfl, rfl, rfl, rfl, rfl, trivial⟩, Ext.refl _⟩
          ·
            refine TL.gy (j := 3) (t := 18) rfl rfl rfl hg39 rfl (yld_fieldAddr rfl fo_50_0 rfl) ?_
            refine TL.gy (j := 3) (t := 18) rfl rfl rfl hg39 rfl (yld_load1 0 rfl ag_2 rfl (Box.cells hb30) rfl rfl) ?_
            refine TL.gy (j := 3) (t := 18) rfl rfl rfl hg39 rfl (yld_fieldAddr rfl fo_50_1 rfl) ?_
            refine TL.gy (j := 3) (t := 18) rfl rfl rfl hg39 rfl (yld_load1 1 rfl ag_2 rfl (Box.cells hb30) rfl rfl) ?_
            refine TL.gy (j := 3) (t := 18) rfl rfl rfl hg39 rfl (yld_gtr rfl rfl rfl) ?_
            refine TL.yld rfl rfl (yld_or_f rfl rfl hg39 rfl) ?_
            exact TL.nil fun a h => ⟨h.weaken ⟨rfl, rfl, rfl, rfl, rfl, rfl, trivial⟩, Ext.refl _⟩
        intro w40 hx41
        have he42 : Ext w w40 := Ext.trans he37 hx41
        have hb15 := Box.ext hb15 hx41
        have hb30 := Box.ext hb30 hx41
        have hz43 := (hx41).size
        refine TL.yld rfl rfl (yld_move rfl rfl) ?_
        refine TL.cut 4 [(1, .pointer (some ⟨b5, 0, none⟩)), (9, v1), (10, .int .i64 ((a0_s.Latches.length : Int))), (11, .int .i64 i14), (29, .bool (((((decide (x19.Open < 0)) || (decide (x19.Open > x19.Close)))) || (decide (x19.Close > 100000)))))] (fun w' => Ext w40 w') ?_ ?_
        · rcases Bool.eq_false_or_eq_true (((decide (x19.Open < 0)) || (decide (x19.Open > x19.Close)))) with hg44 | hg44
          ·
            refine TL.gnu (j := 10) (t := 25) rfl rfl rfl hg44 rfl ?_
            refine TL.gnu (j := 10) (t := 25) rfl rfl rfl hg44 rfl ?_
            refine TL.gnu (j := 10) (t := 25) rfl rfl rfl hg44 rfl ?_
            refine TL.yld rfl rfl (yld_or_t (b2 := decide (x19.Close > 100000)) rfl rfl hg44 rfl) ?_
            exact TL.nil fun a h => ⟨h.weaken ⟨rfl, rfl, rfl, rfl, rfl, trivial⟩, Ext.refl _⟩
          ·
            refine TL.gy (j := 10) (t := 25) rfl rfl rfl hg44 rfl (yld_fieldAddr rfl fo_50_1 rfl) ?_
            refine TL.gy (j := 10) (t := 25) rfl rfl rfl hg44 rfl (yld_load1 1 rfl ag_2 rfl (Box.cells hb30) rfl rfl) ?_
            refine TL.gy (j := 10) (t := 25) rfl rfl rfl hg44 rfl (yld_gtr rfl rfl rfl) ?_
            refine TL.yld rfl rfl (yld_or_f rfl rfl hg44 rfl) ?_
            exact TL.nil fun a h => ⟨h.weaken ⟨rfl, rfl, rfl, rfl, rfl, trivial⟩, Ext.refl _⟩
        intro w45 hx46
        have he47 : Ext w w45 := Ext.trans he42 hx46
        have hb15 := Box.ext hb15 hx46
        have hb30 := Box.ext hb30 hx46
        have hz48 := (hx46).size
        refine TL.done ?_
        refine NX.seq ?_
        refine WC.cond rfl ?_ ?_
        · intro hc49
          replace hF := bif_t hc49 hF
          refine WC.seq ?_
          refine WC.region ?_
          refine TL.yld rfl rfl (yld_assign rfl rfl) ?_
          refine TL.done ?_
          refine NX.seq ?_
          refine WC.ret' ?_
          refine NX.blk_r ?_
          refine NX.then_r ?_
          refine NX.then_r ?_
          refine NX.blk_r ?_
          refine NX.then_r ?_
          obtain rfl := Option.some.inj hF
          exact NX.end (rs := [.tmp 2]) (vs := [.bool false]) rfl ⟨rfl, trivial⟩ ⟨_, rfl, rfl, he47⟩
        · intro hc50
          replace hF := bif_f hc50 hF
          refine WC.skip' ?_
          refine NX.blk_n ?_
          refine NX.seq ?_
          refine WC.region ?_
          refine TL.yld rfl rfl (yld_add rfl rfl rfl) ?_
          refine TL.yld rfl rfl (yld_move rfl rfl) ?_
          refine TL.done ?_
          refine NX.then_n ?_
          intro a hK; exact ⟨m16, Nat.lt_succ_self m16, (IntKind.wrap IntKind.i64 (i14 + 1)), hK.weaken ⟨rfl, rfl, rfl, rfl, trivial⟩, he47, (by omega), hb15, hF⟩
      · intro hc51
        replace hF := bif_f hc51 hF
        refine WC.exit' ?_
        refine NX.then_e ?_
        refine NX.then_e ?_
        refine NX.blk_hit ?_
        refine NX.seq ?_
        refine WC.seq ?_
        refine WC.region ?_
        refine TL.yld rfl rfl (yld_fieldAddr rfl fo_38_0 rfl) ?_
        refine TL.yld rfl rfl (yld_load1 0 rfl ag_35 rfl (Box.cells hb15) rfl rfl) ?_
        obtain ⟨r52, hr53, hF⟩ := bsome hF
        refine TL.eff rfl rfl (eff_call rfl gf_60 rfl (W_impl_length_impl_Latch hr53 ((slRep.old ha2 he13 (Nat.le_refl _)).wide (Nat.le_refl _) (he13).size))) ?_
        rintro _ w54 ⟨rfl, hx55⟩
        have he56 : Ext w w54 := Ext.trans he13 hx55
        have hb15 := Box.ext hb15 hx55
        have hz57 := (hx55).size
        refine TL.yld rfl rfl (yld_assign rfl rfl) ?_
        refine TL.done ?_
        refine NX.seq ?_
        refine WC.seq ?_
        refine WC.seq ?_
        refine WC.region ?_
        refine TL.yld rfl rfl (yld_fieldAddr rfl fo_38_1 rfl) ?_
        refine TL.yld rfl rfl (yld_load1 1 rfl ag_36 rfl (Box.cells hb15) rfl rfl) ?_
        refine TL.yld rfl rfl (ye_len (c := C_LatchLink) rfl Try.underlying36 rfl (slRep.old ha4 he56 (Nat.le_refl _))) ?_
        refine TL.yld rfl rfl (yld_move rfl rfl) ?_
        refine TL.done ?_
        refine NX.seq ?_
        refine WC.block ?_
        refine WC.loop (fun m62 a wl => ∃ (i60 : Int), Kn 76 [(1, .pointer (some ⟨b5, 0, none⟩)), (5, .int .i64 r52), (35, v3), (36, .int .i64 ((a0_s.Links.length : Int))), (37, .int .i64 i60)] a ∧ Ext w wl ∧ w54.heap.size ≤ wl.heap.size ∧ Box wl b5 [v1, v3] 38 ∧ F_impl_IsLatchSystem_L2 n a0_s r52 (fun i60 => (some (((decide (r52 ≤ 12)) && (decide ((a0_s.Links.length : Int) ≤ 60)))))) m62 i60 = some r) n ?_ ?_
        · intro a hK; exact ⟨0, hK.weaken ⟨rfl, rfl, rfl, rfl, rfl, trivial⟩, he56, Nat.le_refl _, hb15, hF⟩
        · rintro m62 a w58 ⟨i60, hK, he59, hz63, hb61, hF⟩
          revert hK; revert a; refine (?_ : WC _ _ _ _ _ _)
          cases m62 with
          | zero => rw [F_impl_IsLatchSystem_L2_z] at hF; cases hF
          | succ m62 =>
            rw [F_impl_IsLatchSystem_L2_s] at hF
            refine WC.seq ?_
            refine WC.region ?_
            refine TL.yld rfl rfl (yld_lss rfl rfl rfl) ?_
            refine TL.done ?_
            refine NX.seq ?_
            refine WC.seq ?_
            refine WC.cond rfl ?_ ?_
            · intro hc64
              replace hF := bif_t hc64 hF
              refine WC.skip' ?_
              refine NX.seq ?_
              refine WC.seq ?_
              refine WC.block ?_
              refine WC.seq ?_
              refine WC.region ?_
              obtain ⟨x65, hy66, hF⟩ := bsome hF
              refine TL.ye rfl rfl (ye_index (c := C_LatchLink) rfl Try.underlying36 cn_77 rfl rfl (slRep.old ha4 he59 (Nat.le_refl _)) hy66) ?_
              rintro _ ⟨b67, o68, us69, rfl, hib72, hr70, hcl71⟩
              have hib72 : 0 ≤ b67 ∧ b67 < w.heap.size := ⟨hib72.1, by have := hib72.2; omega⟩
              obtain rfl := C_LatchLink_open hr70
              refine TL.yld rfl rfl (yld_loadN (us := [.int .i64 x65.From, .int .i64 x65.To, .int .i64 x65.Delay, .int .i64 x65.Shift]) rfl ag_77 rfl hcl71 cn_77) ?_
              refine TL.eff rfl rfl (eff_alloc rfl zn_77) ?_
              rintro _ w74 ⟨b73, rfl, hn75⟩
              obtain ⟨hn75e, hn75s, hn75x, hb76⟩ := hn75
              have hb76 : Box w74 b73 [.int .i64 0, .int .i64 0, .int .i64 0, .int .i64 0] 77 := hb76
              have he78 : Ext w w74 := Ext.trans he59 hn75x
              have hb61 := Box.ext hb61 hn75x
              have hz79 := (hn75x).size
              have hlo77 : w.heap.size ≤ b73 := by rw [hn75e]; exact (he59).size
              refine TL.eff rfl rfl (eff_store rfl rfl rfl hb76 cn_77 rfl rfl) ?_
              rintro _ w80 ⟨hu81, hb82⟩
              have he83 : Ext w w80 := Below.trans he78 (Upd.below hu81 (by omega))
              have hb61 := Box.upd hb61 hu81 (by omega)
              have hz84 := (hu81).size
              have hb76 : Box w80 b73 [.int .i64 x65.From, .int .i64 x65.To, .int .i64 x65.Delay, .int .i64 x65.Shift] 77 := hb82
              refine TL.done ?_
              refine NX.seq ?_
              refine WC.seq ?_
              refine WC.region ?_
              refine TL.yld rfl rfl (yld_fieldAddr rfl fo_77_0 rfl) ?_
              refine TL.yld rfl rfl (yld_load1 0 rfl ag_2 rfl (Box.cells hb76) rfl rfl) ?_
              refine TL.yld rfl rfl (yld_move rfl rfl) ?_
              refine TL.yld rfl rfl (yld_sub rfl rfl rfl) ?_
              obtain ⟨r85, hr86, hF⟩ := bsome hF
              refine TL.eff rfl rfl (eff_call rfl gf_61 rfl (W_impl_within hr86)) ?_
              rintro _ w87 ⟨rfl, hx88⟩
              have he89 : Ext w w87 := Ext.trans he83 hx88
              have hb61 := Box.ext hb61 hx88
              have hb76 := Box.ext hb76 hx88
              have hz90 := (hx88).size
              refine TL.yld rfl rfl (yld_not rfl rfl) ?_
              refine TL.yld rfl rfl (yld_move rfl rfl) ?_
              obtain ⟨c91, hb92, hF⟩ := bsome hF
              refine TL.cut 7 [(1, .pointer (some ⟨b5, 0, none⟩)), (5, .int .i64 r52), (7, .pointer (some ⟨b73, 0, none⟩)), (35, v3), (36, .int .i64 ((a0_s.Links.length : Int))), (37, .int .i64 i60), (54, .bool c91)] (fun w' => Ext w87 w') ?_ ?_
              · rcases Bool.eq_false_or_eq_true (!r85) with hg93 | hg93
                ·
                  rw [hg93] at hb92; simp only [cond_true, cond_false] at hb92
                  refine TL.gnu (j := 6) (t := 47) rfl rfl rfl hg93 rfl ?_
                  refine TL.gnu (j := 6) (t := 47) rfl rfl rfl hg93 rfl ?_
                  refine TL.gnu (j := 6) (t := 47) rfl rfl rfl hg93 rfl ?_
                  refine TL.gnu (j := 6) (t := 47) rfl rfl rfl hg93 rfl ?_
                  refine TL.gnu (j := 6) (t := 47) rfl rfl rfl hg93 rfl ?_
                  refine TL.gnu (j := 6) (t := 47) rfl rfl rfl hg93 rfl ?_
                  obtain rfl := Option.some.inj hb92
                  refine TL.yld rfl rfl (yld_pick_t rfl rfl hg93 rfl) ?_
                  exact TL.nil fun a h => ⟨h.weaken ⟨rfl, rfl, rfl, rfl, rfl, rfl, rfl, trivial⟩, Ext.refl _⟩
                ·
                  rw [hg93] at hb92; simp only [cond_true, cond_false] at hb92
                  replace hF := hb92
                  refine TL.gy (j := 6) (t := 47) rfl rfl rfl hg93 rfl (yld_fieldAddr rfl fo_77_1 rfl) ?_
                  refine TL.gy (j := 6) (t := 47) rfl rfl rfl hg93 rfl (yld_load1 1 rfl ag_2 rfl (Box.cells hb76) rfl rfl) ?_
                  refine TL.gy (j := 6) (t := 47) rfl rfl rfl hg93 rfl (yld_move rfl rfl) ?_
                  refine TL.gy (j := 6) (t := 47) rfl rfl rfl hg93 rfl (yld_sub rfl rfl rfl) ?_
                  obtain ⟨r94, hr95, hF⟩ := bsome hF
                  refine TL.ge (j := 6) (t := 47) rfl rfl rfl hg93 rfl (eff_call rfl gf_61 rfl (W_impl_within hr95)) ?_
                  rintro _ w96 ⟨rfl, hx97⟩
                  have he98 : Ext w w96 := Ext.trans he89 hx97
                  have hb61 := Box.ext hb61 hx97
                  have hb76 := Box.ext hb76 hx97
                  have hz99 := (hx97).size
                  refine TL.gy (j := 6) (t := 47) rfl rfl rfl hg93 rfl (yld_not rfl rfl) ?_
                  obtain rfl := Option.some.inj hF
                  refine TL.yld rfl rfl (yld_pick_f rfl rfl hg93 rfl) ?_
                  exact TL.nil fun a h => ⟨h.weaken ⟨rfl, rfl, rfl, rfl, rfl, rfl, rfl, trivial⟩, hx97⟩
              intro w100 hx101
              have he102 : Ext w w100 := Ext.trans he89 hx101
              have hb61 := Box.ext hb61 hx101
              have hb76 := Box.ext hb76 hx101
              have hz103 := (hx101).size
              refine TL.yld rfl rfl (yld_move rfl rfl) ?_
              obtain ⟨c104, hb105, hF⟩ := bsome hF
              refine TL.cut 5 [(1, .pointer (some ⟨b5, 0, none⟩)), (5, .int .i64 r52), (7, .pointer (some ⟨b73, 0, none⟩)), (35, v3), (36, .int .i64 ((a0_s.Links.length : Int))), (37, .int .i64 i60), (60, .bool c104)] (fun w' => Ext w100 w') ?_ ?_
              · rcases Bool.eq_false_or_eq_true c91 with hg106 | hg106
                ·
                  rw [hg106] at hb105; simp only [cond_true, cond_false] at hb105
                  refine TL.gnu (j := 14) (t := 55) rfl rfl rfl hg106 rfl ?_
                  refine TL.gnu (j := 14) (t := 55) rfl rfl rfl hg106 rfl ?_
                  refine TL.gnu (j := 14) (t := 55) rfl rfl rfl hg106 rfl ?_
                  refine TL.gnu (j := 14) (t := 55) rfl rfl rfl hg106 rfl ?_
                  obtain rfl := Option.some.inj hb105
                  refine TL.yld rfl rfl (yld_pick_t rfl rfl hg106 rfl) ?_
                  exact TL.nil fun a h => ⟨h.weaken ⟨rfl, rfl, rfl, rfl, rfl, rfl, rfl, trivial⟩, Ext.refl _⟩
                ·
                  rw [hg106] at hb105; simp only [cond_true, cond_false] at hb105
                  replace hF := hb105
                  refine TL.gy (j := 14) (t := 55) rfl rfl rfl hg106 rfl (yld_fieldAddr rfl fo_77_2 rfl) ?_
                  refine TL.gy (j := 14) (t := 55) rfl rfl rfl hg106 rfl (yld_load1 2 rfl ag_2 rfl (Box.cells hb76) rfl rfl) ?_
                  obtain ⟨r107, hr108, hF⟩ := bsome hF
                  refine TL.ge (j := 14) (t := 55) rfl rfl rfl hg106 rfl (eff_call rfl gf_61 rfl (W_impl_within hr108)) ?_
                  rintro _ w109 ⟨rfl, hx110⟩
                  have he111 : Ext w w109 := Ext.trans he102 hx110
                  have hb61 := Box.ext hb61 hx110
                  have hb76 := Box.ext hb76 hx110
                  have hz112 := (hx110).size
                  refine TL.gy (j := 14) (t := 55) rfl rfl rfl hg106 rfl (yld_not rfl rfl) ?_
                  obtain rfl := Option.some.inj hF
                  refine TL.yld rfl rfl (yld_pick_f rfl rfl hg106 rfl) ?_
                  exact TL.nil fun a h => ⟨h.weaken ⟨rfl, rfl, rfl, rfl, rfl, rfl, rfl, trivial⟩, hx110⟩
              intro w113 hx114
              have he115 : Ext w w113 := Ext.trans he102 hx114
              have hb61 := Box.ext hb61 hx114
              have hb76 := Box.ext hb76 hx114
              have hz116 := (hx114).size
              refine TL.yld rfl rfl (yld_move rfl rfl) ?_
              obtain ⟨c117, hb118, hF⟩ := bsome hF
              refine TL.cut 5 [(1, .pointer (some ⟨b5, 0, none⟩)), (5, .int .i64 r52), (35, v3), (36, .int .i64 ((a0_s.Links.length : Int))), (37, .int .i64 i60), (66, .bool c117)] (fun w' => Ext w113 w') ?_ ?_
              · rcases Bool.eq_false_or_eq_true c104 with hg119 | hg119
                ·
                  rw [hg119] at hb118; simp only [cond_true, cond_false] at hb118
                  refine TL.gnu (j := 20) (t := 61) rfl rfl rfl hg119 rfl ?_
                  refine TL.gnu (j := 20) (t := 61) rfl rfl rfl hg119 rfl ?_
                  refine TL.gnu (j := 20) (t := 61) rfl rfl rfl hg119 rfl ?_
                  refine TL.gnu (j := 20) (t := 61) rfl rfl rfl hg119 rfl ?_
                  obtain rfl := Option.some.inj hb118
                  refine TL.yld rfl rfl (yld_pick_t rfl rfl hg119 rfl) ?_
                  exact TL.nil fun a h => ⟨h.weaken ⟨rfl, rfl, rfl, rfl, rfl, rfl, trivial⟩, Ext.refl _⟩
                ·
                  rw [hg119] at hb118; simp only [cond_true, cond_false] at hb118
                  replace hF := hb118
                  refine TL.gy (j := 20) (t := 61) rfl rfl rfl hg119 rfl (yld_fieldAddr rfl fo_77_3 rfl) ?_
                  refine TL.gy (j := 20) (t := 61) rfl rfl rfl hg119 rfl (yld_load1 3 rfl ag_2 rfl (Box.cells hb76) rfl rfl) ?_
                  obtain ⟨r120, hr121, hF⟩ := bsome hF
                  refine TL.ge (j := 20) (t := 61) rfl rfl rfl hg119 rfl (eff_call rfl gf_61 rfl (W_impl_within hr121)) ?_
                  rintro _ w122 ⟨rfl, hx123⟩
                  have he124 : Ext w w122 := Ext.trans he115 hx123
                  have hb61 := Box.ext hb61 hx123
                  have hb76 := Box.ext hb76 hx123
                  have hz125 := (hx123).size
                  refine TL.gy (j := 20) (t := 61) rfl rfl rfl hg119 rfl (yld_not rfl rfl) ?_
                  obtain rfl := Option.some.inj hF
                  refine TL.yld rfl rfl (yld_pick_f rfl rfl hg119 rfl) ?_
                  exact TL.nil fun a h => ⟨h.weaken ⟨rfl, rfl, rfl, rfl, rfl, rfl, trivial⟩, hx123⟩
              intro w126 hx127
              have he128 : Ext w w126 := Ext.trans he115 hx127
              have hb61 := Box.ext hb61 hx127
              have hb76 := Box.ext hb76 hx127
              have hz129 := (hx127).size
              refine TL.done ?_
              refine NX.seq ?_
              refine WC.cond rfl ?_ ?_
              · intro hc130
                replace hF := bif_t hc130 hF
                refine WC.seq ?_
                refine WC.region ?_
                refine TL.yld rfl rfl (yld_assign rfl rfl) ?_
                refine TL.done ?_
                refine NX.seq ?_
                refine WC.ret' ?_
                refine NX.blk_r ?_
                refine NX.then_r ?_
                refine NX.then_r ?_
                refine NX.blk_r ?_
                refine NX.then_r ?_
                obtain rfl := Option.some.inj hF
                exact NX.end (rs := [.tmp 2]) (vs := [.bool false]) rfl ⟨rfl, trivial⟩ ⟨_, rfl, rfl, he128⟩
              · intro hc131
                replace hF := bif_f hc131 hF
                refine WC.skip' ?_
                refine NX.blk_n ?_
                refine NX.seq ?_
                refine WC.region ?_
                refine TL.yld rfl rfl (yld_add rfl rfl rfl) ?_
                refine TL.yld rfl rfl (yld_move rfl rfl) ?_
                refine TL.done ?_
                refine NX.then_n ?_
                intro a hK; exact ⟨m62, Nat.lt_succ_self m62, (IntKind.wrap IntKind.i64 (i60 + 1)), hK.weaken ⟨rfl, rfl, rfl, rfl, rfl, trivial⟩, he128, (by omega), hb61, hF⟩
            · intro hc132
              replace hF := bif_f hc132 hF
              refine WC.exit' ?_
              refine NX.then_e ?_
              refine NX.then_e ?_
              refine NX.blk_hit ?_
              refine NX.seq ?_
              refine WC.seq ?_
              refine WC.region ?_
              refine TL.yld rfl rfl (yld_move rfl rfl) ?_
              refine TL.yld rfl rfl (yld_leq rfl rfl rfl) ?_
              refine TL.yld rfl rfl (yld_move rfl rfl) ?_
              refine TL.cut 5 [(75, .bool (((decide (r52 ≤ 12)) && (decide ((a0_s.Links.length : Int) ≤ 60)))))] (fun w' => Ext w58 w') ?_ ?_
              · rcases Bool.eq_false_or_eq_true (decide (r52 ≤ 12)) with hg133 | hg133
                ·
                  refine TL.gy (j := 2) (t := 70) rfl rfl rfl hg133 rfl (yld_fieldAddr rfl fo_38_1 rfl) ?_
                  refine TL.gy (j := 2) (t := 70) rfl rfl rfl hg133 rfl (yld_load1 1 rfl ag_36 rfl (Box.cells hb61) rfl rfl) ?_
                  refine TL.gy (j := 2) (t := 70) rfl rfl rfl hg133 rfl (ye_len (c := C_LatchLink) rfl Try.underlying36 rfl (slRep.old ha4 he59 (Nat.le_refl _))) ?_
                  refine TL.gy (j := 2) (t := 70) rfl rfl rfl hg133 rfl (yld_leq rfl rfl rfl) ?_
                  refine TL.yld rfl rfl (yld_and_t rfl rfl hg133 rfl) ?_
                  exact TL.nil fun a h => ⟨h.weaken ⟨rfl, trivial⟩, Ext.refl _⟩
                ·
                  refine TL.gnu (j := 2) (t := 70) rfl rfl rfl hg133 rfl ?_
                  refine TL.gnu (j := 2) (t := 70) rfl rfl rfl hg133 rfl ?_
                  refine TL.gnu (j := 2) (t := 70) rfl rfl rfl hg133 rfl ?_
                  refine TL.gnu (j := 2) (t := 70) rfl rfl rfl hg133 rfl ?_
                  refine TL.yld rfl rfl (yld_and_f (b2 := decide ((a0_s.Links.length : Int) ≤ 60)) rfl rfl hg133 rfl) ?_
                  exact TL.nil fun a h => ⟨h.weaken ⟨rfl, trivial⟩, Ext.refl _⟩
              intro w134 hx135
              have he136 : Ext w w134 := Ext.trans he59 hx135
              have hb61 := Box.ext hb61 hx135
              have hz137 := (hx135).size
              refine TL.yld rfl rfl (yld_assign rfl rfl) ?_
              refine TL.done ?_
              refine NX.seq ?_
              refine WC.ret' ?_
              obtain rfl := Option.some.inj hF
              exact NX.end (rs := [.tmp 2]) (vs := [.bool (((decide (r52 ≤ 12)) && (decide ((a0_s.Links.length : Int) ≤ 60))))]) rfl ⟨rfl, trivial⟩ ⟨_, rfl, rfl, he136⟩

-- (loop.example/g00861/impl.LatchSystem).arrivals
def F_impl_LatchSystem_arrivals_L1 (a0_s : S_LatchSystem) (a1_times : List Int) (k0 : Int → (List Int) → (List Bool) → Option ((List Int) × (List Bool))) : Nat → Int → (List Int) → (List Bool) → Option ((List Int) × (List Bool))
  | 0 => fun _ _ _ => none
  | m + 1 => fun i119 l120 l122 => (bif decide (i119 < (a0_s.Links.length : Int)) then (Option.bind (getI a0_s.Links i119) fun x125 => (Option.bind (getI a1_times x125.From) fun x145 => (Option.bind (getI l122 x125.To) fun x157 => (Option.bind (bif (!x157) then (some true) else (Option.bind (getI l120 x125.To) fun x164 => (some (decide (IntKind.wrap IntKind.i64 ((IntKind.wrap IntKind.i64 (x145 + x125.Delay)) - x125.Shift) > x164))))) fun c164 => (bif c164 then (Option.bind (getI l120 x125.To) fun x179 => (Option.bind (getI l122 x125.To) fun x191 => (F_impl_LatchSystem_arrivals_L1 a0_s a1_times k0 m (IntKind.wrap IntKind.i64 (i119 + 1)) ((l120.set (x125.To).toNat (IntKind.wrap IntKind.i64 ((IntKind.wrap IntKind.i64 (x145 + x125.Delay)) - x125.Shift)))) ((l122.set (x125.To).toNat true))))) else (F_impl_LatchSystem_arrivals_L1 a0_s a1_times k0 m (IntKind.wrap IntKind.i64 (i119 + 1)) l120 l122)))))) else (k0 i119 l120 l122))
theorem F_impl_LatchSystem_arrivals_L1_z (a0_s : S_LatchSystem) (a1_times : List Int) (k0 : Int → (List Int) → (List Bool) → Option ((List Int) × (List Bool))) (i119 : Int) (l120 : List Int) (l122 : List Bool) : F_impl_LatchSystem_arrivals_L1 a0_s a1_times k0 0 i119 l120 l122 = none := rfl
theorem F_impl_LatchSystem_arrivals_L1_s (m : Nat) (a0_s : S_LatchSystem) (a1_times : List Int) (k0 : Int → (List Int) → (List Bool) → Option ((List Int) × (List Bool))) (i119 : Int) (l120 : List Int) (l122 : List Bool) : F_impl_LatchSystem_arrivals_L1 a0_s a1_times k0 (m + 1) i119 l120 l122 = (bif decide (i119 < (a0_s.Links.length : Int)) then (Option.bind (getI a0_s.Links i119) fun x125 => (Option.bind (getI a1_times x125.From) fun x145 => (Option.bind (getI l122 x125.To) fun x157 => (Option.bind (bif (!x157) then (some true) else (Option.bind (getI l120 x125.To) fun x164 => (some (decide (IntKind.wrap IntKind.i64 ((IntKind.wrap IntKind.i64 (x145 + x125.Delay)) - x125.Shift) > x164))))) fun c164 => (bif c164 then (Option.bind (getI l120 x125.To) fun x179 => (Option.bind (getI l122 x125.To) fun x191 => (F_impl_LatchSystem_arrivals_L1 a0_s a1_times k0 m (IntKind.wrap IntKind.i64 (i119 + 1)) ((l120.set (x125.To).toNat (IntKind.wrap IntKind.i64 ((IntKind.wrap IntKind.i64 (x145 + x125.Delay)) - x125.Shift)))) ((l122.set (x125.To).toNat true))))) else (F_impl_LatchSystem_arrivals_L1 a0_s a1_times k0 m (IntKind.wrap IntKind.i64 (i119 + 1)) l120 l122)))))) else (k0 i119 l120 l122)) := rfl

def F_impl_LatchSystem_arrivals (n : Nat) (a0_s : S_LatchSystem) (a1_times : List Int) : Option ((List Int) × (List Bool)) := (Option.bind (mkN ((a1_times.length : Int)) 8) fun n14 => (Option.bind (mkN ((a1_times.length : Int)) 1) fun n29 => (F_impl_LatchSystem_arrivals_L1 a0_s a1_times (fun i119 l120 l122 => (some (l120, l122))) n 0 (List.replicate n14 0) (List.replicate n29 false))))
set_option maxHeartbeats 4000000 in
theorem W_impl_LatchSystem_arrivals {n : Nat} {a0_s : S_LatchSystem} {a1_times : List Int} {r : (List Int) × (List Bool)} {w : World} {v1 : Value} {v3 : Value} {v5 : Value} (hF : F_impl_LatchSystem_arrivals n a0_s a1_times = some r) (ha2 : slRep C_Latch w (Iv 0 w.heap.size) a0_s.Latches v1) (ha4 : slRep C_LatchLink w (Iv 0 w.heap.size) a0_s.Links v3) (ha6 : slRep (cInt .i64) w (Iv 0 w.heap.size) a1_times v5) :
    Calls Try.prog 78 [.agg #[v1, v3], v5].toArray w (Ret fun u w2 => ∃ v0_0 v1_0, u = .tuple #[v0_0, v1_0] ∧ ownR (cInt .i64) w2 w.heap.size (Iv 0 0) 2 r.1 v0_0 ∧ ownR cBool w2 w.heap.size (Iv 0 0) 4 r.2 v1_0 ∧ (∀ g q, v1_0.ownBlock = some g → v0_0.ownBlock = some q → g ≠ q) ∧ Ext w w2) := by
  refine calls_of Try.func78 rfl Try.ntmps78 ?_
  have he0 : Ext w w := Ext.refl w
  unfold F_impl_LatchSystem_arrivals at hF
  refine WC.seq ?_
  refine WC.region ?_
  refine TL.eff rfl rfl (eff_box rfl rfl) ?_
  rintro _ w8 ⟨b7, rfl, hn9⟩
  obtain ⟨hn9e, hn9s, hn9x, hb10⟩ := hn9
  have hb10 : Box w8 b7 [v1, v3] 38 := hb10
  have he12 : Ext w w8 := Ext.trans he0 hn9x
  have hz13 := (hn9x).size
  have hlo11 : w.heap.size ≤ b7 := by rw [hn9e]; exact (he0).size
  refine TL.yld rfl rfl (yld_assign rfl rfl) ?_
  refine TL.yld rfl rfl (yld_assign rfl rfl) ?_
  refine TL.done ?_
  refine NX.seq ?_
  refine WC.seq ?_
  obtain ⟨n14, hk15, hF⟩ := bsome hF
  obtain ⟨n29, hk30, hF⟩ := bsome hF
  refine WC.join (fun a wl => ∃ (v47 : Value) (v50 : Value), Kn 62 [(1, v5), (2, .pointer (some ⟨b7, 0, none⟩)), (6, v47), (7, v50)] a ∧ Ext w wl ∧ w8.heap.size ≤ wl.heap.size ∧ Box wl b7 [v1, v3] 38 ∧ ownR (cInt .i64) wl (w8.heap.size) (Iv 0 0) 2 (List.replicate n14 0) v47 ∧ (∀ q, v47.ownBlock = some q → w8.heap.size ≤ q ∧ q < wl.heap.size) ∧ ownR cBool wl (w8.heap.size) (Iv 0 0) 4 (List.replicate n29 false) v50 ∧ (∀ q, v50.ownBlock = some q → w8.heap.size ≤ q ∧ q < wl.heap.size) ∧ (∀ g, v47.ownBlock = some g → g ≠ b7) ∧ (∀ g, v50.ownBlock = some g → g ≠ b7) ∧ (∀ g q, v50.ownBlock = some g → v47.ownBlock = some q → g ≠ q)) ?_ ?_
  ·
    refine WC.held 7 Try.hm fun w57 hx58 => ?_
    have he59 : Ext w w57 := Ext.trans he12 hx58
    have hb10 := Box.ext hb10 hx58
    have hz60 := (hx58).size
    refine HL.yld 0 (by kernel_rfl) rfl (by kernel_rfl) rfl rfl (yld_move rfl rfl) ?_
    refine HL.yld 1 (by kernel_rfl) rfl (by kernel_rfl) rfl rfl (ye_len (c := (cInt .i64)) rfl Try.underlying45 rfl (slRep.old ha6 he59 (Nat.le_refl _))) ?_
    refine HL.yld 3 (by kernel_rfl) rfl (by kernel_rfl) rfl rfl (yld_move rfl rfl) ?_
    refine HL.yld 4 (by kernel_rfl) rfl (by kernel_rfl) rfl rfl (ye_len (c := (cInt .i64)) rfl Try.underlying45 rfl (slRep.old ha6 he59 (Nat.le_refl _))) ?_
    refine HL.many (js := [2, 5]) (by kernel_rfl) rfl (all_two ?_ ?_)
    ·
      refine HB.eff 2 rfl rfl (by kernel_rfl) rfl rfl (eff_make (c := (cInt .i64)) (z := 0) rfl Try.underlying45 in_2 rfl rfl rfl hk15 rfl rfl (fun _ => rfl)) ?_
      rintro v61 w62 ⟨g63, hv64, hg65, hz66, hx67, hs68⟩
      have hbs69 : Ext w57 w62 := Ext.trans (Ext.refl w57) hx67
      have he70 : Ext w w62 := Ext.trans he59 hx67
      have hb10 := Box.ext hb10 hx67
      have hz71 := (hx67).size
      have hlo72 : w.heap.size ≤ g63 := by rw [hg65]; exact (he59).size
      have hbd73 := bd_of hv64
      clear hv64
      refine ⟨hbs69, ?_⟩
      refine HL.yld 6 (by kernel_rfl) rfl (by kernel_rfl) rfl rfl (yld_assign rfl rfl) ?_
      refine HL.eff 5 rfl rfl (by kernel_rfl) rfl rfl (eff_make (c := cBool) (z := false) rfl Try.underlying95 in_4 rfl rfl rfl hk30 rfl rfl (fun _ => rfl)) ?_
      rintro v75 w76 ⟨g77, hv78, hg79, hz80, hx81, hs82⟩
      have hbs83 : Ext w57 w76 := Ext.trans hbs69 hx81
      have he84 : Ext w w76 := Ext.trans he70 hx81
      have hb10 := Box.ext hb10 hx81
      have hs68 := ownR.ext hs68 hx81
      have hz85 := (hx81).size
      have hlo86 : w.heap.size ≤ g77 := by rw [hg79]; exact (he70).size
      have hbd87 := bd_of hv78
      clear hv78
      refine ⟨hbs83, ?_⟩
      refine HL.tail rfl (by kernel_rfl) rfl ?_
      refine TL.yld rfl rfl (yld_assign rfl rfl) ?_
      refine TL.noPan (l := []) ?_
      exact fun a hK => ⟨rfl, v61, v75, hK.weaken ⟨rfl, rfl, rfl, rfl, trivial⟩, he84, (by omega), hb10, (ownR.base hs68 (by omega)), (fun g hg => by have := hbd73 g hg; omega), (ownR.base hs82 (by omega)), (fun g hg => by have := hbd87 g hg; omega), (fun g hg => by have := hbd73 g hg; omega), (fun g hg => by have := hbd87 g hg; omega), (fun g q hg hq => by have := hbd87 g hg; have := hbd73 q hq; omega)⟩
    ·
      refine HB.eff 5 rfl rfl (by kernel_rfl) rfl rfl (eff_make (c := cBool) (z := false) rfl Try.underlying95 in_4 rfl rfl rfl hk30 rfl rfl (fun _ => rfl)) ?_
      rintro v89 w90 ⟨g91, hv92, hg93, hz94, hx95, hs96⟩
      have hbs97 : Ext w57 w90 := Ext.trans (Ext.refl w57) hx95
      have he98 : Ext w w90 := Ext.trans he59 hx95
      have hb10 := Box.ext hb10 hx95
      have hz99 := (hx95).size
      have hlo100 : w.heap.size ≤ g91 := by rw [hg93]; exact (he59).size
      have hbd101 := bd_of hv92
      clear hv92
      refine ⟨hbs97, ?_⟩
      refine HL.eff 2 rfl rfl (by kernel_rfl) rfl rfl (eff_make (c := (cInt .i64)) (z := 0) rfl Try.underlying45 in_2 rfl rfl rfl hk15 rfl rfl (fun _ => rfl)) ?_
      rintro v103 w104 ⟨g105, hv106, hg107, hz108, hx109, hs110⟩
      have hbs111 : Ext w57 w104 := Ext.trans hbs97 hx109
      have he112 : Ext w w104 := Ext.trans he98 hx109
      have hb10 := Box.ext hb10 hx109
      have hs96 := ownR.ext hs96 hx109
      have hz113 := (hx109).size
      have hlo114 : w.heap.size ≤ g105 := by rw [hg107]; exact (he98).size
      have hbd115 := bd_of hv106
      clear hv106
      refine ⟨hbs111, ?_⟩
      refine HL.yld 6 (by kernel_rfl) rfl (by kernel_rfl) rfl rfl (yld_assign rfl rfl) ?_
      refine HL.tail rfl (by kernel_rfl) rfl ?_
      refine TL.yld rfl rfl (yld_assign rfl rfl) ?_
      refine TL.noPan (l := []) ?_
      exact fun a hK => ⟨rfl, v103, v89, hK.weaken ⟨rfl, rfl, rfl, rfl, trivial⟩, he112, (by omega), hb10, (ownR.base hs110 (by omega)), (fun g hg => by have := hbd115 g hg; omega), (ownR.base hs96 (by omega)), (fun g hg => by have := hbd101 g hg; omega), (fun g hg => by have := hbd115 g hg; omega), (fun g hg => by have := hbd101 g hg; omega), (fun g q hg hq => by have := hbd101 g hg; have := hbd115 q hq; omega)⟩
  ·
    rintro a w44 ⟨v47, v50, hK, he45, hz53, hb46, hs48, hbd49, hs51, hbd52, hp54, hp55, hp56⟩
    revert hK; revert a; refine (?_ : NX _ _ _ _ _)
    refine NX.seq ?_
    refine WC.seq ?_
    refine WC.seq ?_
    refine WC.region ?_
    refine TL.yld rfl rfl (yld_fieldAddr rfl fo_38_1 rfl) ?_
    refine TL.yld rfl rfl (yld_load1 1 rfl ag_36 rfl (Box.cells hb46) rfl rfl) ?_
    refine TL.yld rfl rfl (ye_len (c := C_LatchLink) rfl Try.underlying36 rfl (slRep.old ha4 he45 (Nat.le_refl _))) ?_
    refine TL.yld rfl rfl (yld_move rfl rfl) ?_
    refine TL.done ?_
    refine NX.seq ?_
    refine WC.block ?_
    refine WC.loop (fun m124 a wl => ∃ (i119 : Int) (l120 : List Int) (l122 : List Bool), Kn 62 [(1, v5), (6, v47), (7, v50), (18, v3), (19, .int .i64 ((a0_s.Links.length : Int))), (20, .int .i64 i119)] a ∧ Ext w wl ∧ w44.heap.size ≤ wl.heap.size ∧ ownR (cInt .i64) wl (w8.heap.size) (Iv 0 0) 2 l120 v47 ∧ ownR cBool wl (w8.heap.size) (Iv 0 0) 4 l122 v50 ∧ F_impl_LatchSystem_arrivals_L1 a0_s a1_times (fun i119 l120 l122 => (some (l120, l122))) m124 i119 l120 l122 = some r) n ?_ ?_
    · intro a hK; exact ⟨0, (List.replicate n14 0), (List.replicate n29 false), hK.weaken ⟨rfl, rfl, rfl, rfl, rfl, rfl, trivial⟩, he45, Nat.le_refl _, hs48, hs51, hF⟩
    · rintro m124 a w117 ⟨i119, l120, l122, hK, he118, hz125, hs121, hs123, hF⟩
      revert hK; revert a; refine (?_ : WC _ _ _ _ _ _)
      cases m124 with
      | zero => rw [F_impl_LatchSystem_arrivals_L1_z] at hF; cases hF
      | succ m124 =>
        rw [F_impl_LatchSystem_arrivals_L1_s] at hF
        refine WC.seq ?_
        refine WC.region ?_
        refine TL.yld rfl rfl (yld_lss rfl rfl rfl) ?_
        refine TL.done ?_
        refine NX.seq ?_
        refine WC.seq ?_
        refine WC.cond rfl ?_ ?_
        · intro hc126
          replace hF := bif_t hc126 hF
          refine WC.skip' ?_
          refine NX.seq ?_
          refine WC.seq ?_
          refine WC.block ?_
          refine WC.seq ?_
          refine WC.region ?_
          obtain ⟨x127, hy128, hF⟩ := bsome hF
          refine TL.ye rfl rfl (ye_index (c := C_LatchLink) rfl Try.underlying36 cn_77 rfl rfl (slRep.old ha4 he118 (Nat.le_refl _)) hy128) ?_
          rintro _ ⟨b129, o130, us131, rfl, hib134, hr132, hcl133⟩
          have hib134 : 0 ≤ b129 ∧ b129 < w.heap.size := ⟨hib134.1, by have := hib134.2; omega⟩
          obtain rfl := C_LatchLink_open hr132
          refine TL.yld rfl rfl (yld_loadN (us := [.int .i64 x127.From, .int .i64 x127.To, .int .i64 x127.Delay, .int .i64 x127.Shift]) rfl ag_77 rfl hcl133 cn_77) ?_
          refine TL.eff rfl rfl (eff_alloc rfl zn_77) ?_
          rintro _ w136 ⟨b135, rfl, hn137⟩
          obtain ⟨hn137e, hn137s, hn137x, hb138⟩ := hn137
          have hb138 : Box w136 b135 [.int .i64 0, .int .i64 0, .int .i64 0, .int .i64 0] 77 := hb138
          have he140 : Ext w w136 := Ext.trans he118 hn137x
          have hs121 := ownR.ext hs121 hn137x
          have hs123 := ownR.ext hs123 hn137x
          have hz141 := (hn137x).size
          have hlo139 : w.heap.size ≤ b135 := by rw [hn137e]; exact (he118).size
          refine TL.eff rfl rfl (eff_store rfl rfl rfl hb138 cn_77 rfl rfl) ?_
          rintro _ w142 ⟨hu143, hb144⟩
          have he145 : Ext w w142 := Below.trans he140 (Upd.below hu143 (by omega))
          have hs121 := ownR.upd hs121 hu143 (fun g hg => by have := hbd49 g hg; omega)
          have hs123 := ownR.upd hs123 hu143 (fun g hg => by have := hbd52 g hg; omega)
          have hz146 := (hu143).size
          have hb138 : Box w142 b135 [.int .i64 x127.From, .int .i64 x127.To, .int .i64 x127.Delay, .int .i64 x127.Shift] 77 := hb144
          refine TL.done ?_
          refine NX.seq ?_
          refine WC.seq ?_
          refine WC.quiet Try.hm (by kernel_rfl) ?_
          refine QL.yld rfl rfl (Yld.qui (yld_move rfl rfl)) ?_
          refine QL.yld rfl rfl (Yld.qui (yld_fieldAddr rfl fo_77_0 rfl)) ?_
          refine QL.yld rfl rfl (Yld.qui (yld_load1 0 rfl ag_2 rfl (Box.cells hb138) rfl rfl)) ?_
          obtain ⟨x147, hy148, hF⟩ := bsome hF
          refine QL.ye rfl rfl (ye_index (c := (cInt .i64)) rfl Try.underlying45 cn_2 rfl rfl (slRep.old ha6 he145 (Nat.le_refl _)) hy148) ?_
          rintro _ ⟨b149, o150, us151, rfl, hib154, hr152, hcl153⟩
          have hib154 : 0 ≤ b149 ∧ b149 < w.heap.size := ⟨hib154.1, by have := hib154.2; omega⟩
          obtain rfl := hr152
          refine QL.yld rfl rfl (Yld.qui (yld_load1 0 rfl ag_2 rfl hcl153 rfl rfl)) ?_
          refine QL.yld rfl rfl (Yld.qui (yld_fieldAddr rfl fo_77_2 rfl)) ?_
          refine QL.yld rfl rfl (Yld.qui (yld_load1 2 rfl ag_2 rfl (Box.cells hb138) rfl rfl)) ?_
          refine QL.yld rfl rfl (Yld.qui (yld_add rfl rfl rfl)) ?_
          refine QL.yld rfl rfl (Yld.qui (yld_fieldAddr rfl fo_77_3 rfl)) ?_
          refine QL.yld rfl rfl (Yld.qui (yld_load1 3 rfl ag_2 rfl (Box.cells hb138) rfl rfl)) ?_
          refine QL.yld rfl rfl (Yld.qui (yld_sub rfl rfl rfl)) ?_
          refine QL.yld rfl rfl (Yld.qui (yld_assign rfl rfl)) ?_
          refine QL.done fun w155 hx156 => ?_
          have he157 : Ext w w155 := Ext.trans he145 hx156
          have hb138 := Box.ext hb138 hx156
          have hs121 := ownR.ext hs121 hx156
          have hs123 := ownR.ext hs123 hx156
          have hz158 := (hx156).size
          refine NX.seq ?_
          refine WC.seq ?_
          refine WC.region ?_
          refine TL.yld rfl rfl (yld_move rfl rfl) ?_
          refine TL.yld rfl rfl (yld_fieldAddr rfl fo_77_1 rfl) ?_
          refine TL.yld rfl rfl (yld_load1 1 rfl ag_2 rfl (Box.cells hb138) rfl rfl) ?_
          obtain ⟨x159, hy160, hF⟩ := bsome hF
          refine TL.ye rfl rfl (ye_index_own (c := cBool) rfl Try.underlying95 cn_4 rfl rfl hs123 hy160) ?_
          rintro _ ⟨g161, us163, rfl, hg162, hr164, hcl165⟩
          have hr164r := hr164
          obtain rfl := hr164
          refine TL.yld rfl rfl (yld_load1 0 rfl ag_4 rfl hcl165 rfl rfl) ?_
          refine TL.yld rfl rfl (yld_not rfl rfl) ?_
          refine TL.yld rfl rfl (yld_move rfl rfl) ?_
          obtain ⟨c166, hb167, hF⟩ := bsome hF
          refine TL.cut 8 [(1, v5), (6, v47), (7, v50), (9, .pointer (some ⟨b135, 0, none⟩)), (10, .int .i64 (IntKind.wrap IntKind.i64 ((IntKind.wrap IntKind.i64 (x147 + x127.Delay)) - x127.Shift))), (18, v3), (19, .int .i64 ((a0_s.Links.length : Int))), (20, .int .i64 i119), (49, .bool c166)] (fun w' => Ext w155 w') ?_ ?_
          · rcases Bool.eq_false_or_eq_true (!x159) with hg168 | hg168
            ·
              rw [hg168] at hb167; simp only [cond_true, cond_false] at hb167
              refine TL.gnu (j := 6) (t := 41) rfl rfl rfl hg168 rfl ?_
              refine TL.gnu (j := 6) (t := 41) rfl rfl rfl hg168 rfl ?_
              refine TL.gnu (j := 6) (t := 41) rfl rfl rfl hg168 rfl ?_
              refine TL.gnu (j := 6) (t := 41) rfl rfl rfl hg168 rfl ?_
              refine TL.gnu (j := 6) (t := 41) rfl rfl rfl hg168 rfl ?_
              refine TL.gnu (j := 6) (t := 41) rfl rfl rfl hg168 rfl ?_
              refine TL.gnu (j := 6) (t := 41) rfl rfl rfl hg168 rfl ?_
              obtain rfl := Option.some.inj hb167
              refine TL.yld rfl rfl (yld_pick_t rfl rfl hg168 rfl) ?_
              exact TL.nil fun a h => ⟨h.weaken ⟨rfl, rfl, rfl, rfl, rfl, rfl, rfl, rfl, rfl, trivial⟩, Ext.refl _⟩
            ·
              rw [hg168] at hb167; simp only [cond_true, cond_false] at hb167
              replace hF := hb167
              refine TL.gy (j := 6) (t := 41) rfl rfl rfl hg168 rfl (yld_move rfl rfl) ?_
              refine TL.gy (j := 6) (t := 41) rfl rfl rfl hg168 rfl (yld_move rfl rfl) ?_
              refine TL.gy (j := 6) (t := 41) rfl rfl rfl hg168 rfl (yld_fieldAddr rfl fo_77_1 rfl) ?_
              refine TL.gy (j := 6) (t := 41) rfl rfl rfl hg168 rfl (yld_load1 1 rfl ag_2 rfl (Box.cells hb138) rfl rfl) ?_
              obtain ⟨x169, hy170, hF⟩ := bsome hF
              refine TL.yeg (j := 6) (t := 41) rfl rfl rfl hg168 rfl (ye_index_own (c := (cInt .i64)) rfl Try.underlying45 cn_2 rfl rfl hs121 hy170) ?_
              rintro _ ⟨g171, us173, rfl, hg172, hr174, hcl175⟩
              have hr174r := hr174
              obtain rfl := hr174
              refine TL.gy (j := 6) (t := 41) rfl rfl rfl hg168 rfl (yld_load1 0 rfl ag_2 rfl hcl175 rfl rfl) ?_
              refine TL.gy (j := 6) (t := 41) rfl rfl rfl hg168 rfl (yld_gtr rfl rfl rfl) ?_
              obtain rfl := Option.some.inj hF
              refine TL.yld rfl rfl (yld_pick_f rfl rfl hg168 rfl) ?_
              exact TL.nil fun a h => ⟨h.weaken ⟨rfl, rfl, rfl, rfl, rfl, rfl, rfl, rfl, rfl, trivial⟩, Ext.refl _⟩
          intro w176 hx177
          have he178 : Ext w w176 := Ext.trans he157 hx177
          have hb138 := Box.ext hb138 hx177
          have hs121 := ownR.ext hs121 hx177
          have hs123 := ownR.ext hs123 hx177
          have hz179 := (hx177).size
          refine TL.done ?_
          refine NX.seq ?_
          refine WC.cond rfl ?_ ?_
          · intro hc180
            replace hF := bif_t hc180 hF
            obtain ⟨x181, hy182, hF⟩ := bsome hF
            obtain ⟨x193, hy194, hF⟩ := bsome hF
            refine WC.heldG (p := (pO v47)) 9 Try.hm fun w205 hx206 => ?_
            have he207 : Ext w w205 := Ext.trans he178 hx206
            have hb138 := Box.ext hb138 hx206
            have hs121 := ownR.ext hs121 hx206
            have hs123 := ownR.ext hs123 hx206
            have hz208 := (hx206).size
            refine HLG.yld 0 (by kernel_rfl) rfl (by kernel_rfl) rfl rfl (fun wx hbx => (yld_move rfl rfl)) ?_
            refine HLG.yld 1 (by kernel_rfl) rfl (by kernel_rfl) rfl rfl (fun wx hbx => (yld_fieldAddr rfl fo_77_1 rfl)) ?_
            refine HLG.yld 2 (by kernel_rfl) rfl (by kernel_rfl) rfl rfl (fun wx hbx => (have hb138 := Box.but hb138 hbx (all_pO (fun g hg => by have := hbd49 g hg; omega)); (yld_load1 1 rfl ag_2 rfl (Box.cells hb138) rfl rfl))) ?_
            refine HLG.yld 3 (by kernel_rfl) rfl (by kernel_rfl) rfl rfl (fun wx hbx => (yld_move rfl rfl)) ?_
            refine HLG.yld 4 (by kernel_rfl) rfl (by kernel_rfl) rfl rfl (fun wx hbx => (yld_fieldAddr rfl fo_77_1 rfl)) ?_
            refine HLG.yld 5 (by kernel_rfl) rfl (by kernel_rfl) rfl rfl (fun wx hbx => (have hb138 := Box.but hb138 hbx (all_pO (fun g hg => by have := hbd49 g hg; omega)); (yld_load1 1 rfl ag_2 rfl (Box.cells hb138) rfl rfl))) ?_
            refine HLG.yld 6 (by kernel_rfl) rfl (by kernel_rfl) rfl rfl (fun wx hbx => (yld_move rfl rfl)) ?_
            refine HLG.ya 7 (by kernel_rfl) rfl (by kernel_rfl) rfl rfl (ya_index_own (c := (cInt .i64)) rfl Try.underlying45 cn_2 rfl rfl hs121 hy182) ?_
            rintro _ ⟨g209, us211, rfl, hg210, hr212, hcl213⟩
            have hr212r := hr212
            obtain rfl := hr212
            refine HLG.eff 8 rfl rfl (by kernel_rfl) rfl rfl (eff_store_own (c := (cInt .i64)) (us' := [.int .i64 (IntKind.wrap IntKind.i64 ((IntKind.wrap IntKind.i64 (x147 + x127.Delay)) - x127.Shift))]) (y' := IntKind.wrap IntKind.i64 ((IntKind.wrap IntKind.i64 (x147 + x127.Delay)) - x127.Shift)) 0 _ rfl rfl rfl hs121 hg210 hy182 rfl cn_2 rfl hr212r hcl213 rfl rfl rfl (fun k h => absurd h.2 (Nat.not_lt_zero k))) ?_
            rintro _ w214 ⟨hu215, hs216⟩
            have he217 : Ext w w214 := Below.trans he207 (Upd.below hu215 (by have := hbd49 _ hg210; omega))
            have hb138 := Box.upd hb138 hu215 (by have := hbd49 _ hg210; omega)
            have hs123 := ownR.upd hs123 hu215 (fun q hq => by have := hp56 q _ hq hg210; omega)
            have hz218 := (hu215).size
            have hbs219 : But (pO v47) w205 w214 := But.upd (But.refl _ w205) hu215 (Or.inl hg210)
            refine ⟨hbs219, ?_⟩
            refine HLG.tail rfl (by kernel_rfl) rfl ?_
            refine TL.ye rfl rfl (ye_index_own (c := cBool) rfl Try.underlying95 cn_4 rfl rfl hs123 hy194) ?_
            rintro _ ⟨g220, us222, rfl, hg221, hr223, hcl224⟩
            have hr223r := hr223
            obtain rfl := hr223
            refine TL.eff rfl rfl (eff_store_own (c := cBool) (us' := [.bool true]) (y' := true) 0 _ rfl rfl rfl hs123 hg221 hy194 rfl cn_4 rfl hr223r hcl224 rfl rfl rfl (fun k h => absurd h.2 (Nat.not_lt_zero k))) ?_
            rintro _ w225 ⟨hu226, hs227⟩
            have he228 : Ext w w225 := Below.trans he217 (Upd.below hu226 (by have := hbd52 _ hg221; omega))
            have hb138 := Box.upd hb138 hu226 (by have := hbd52 _ hg221; omega)
            have hs216 := ownR.upd hs216 hu226 (fun q hq => by have := hp56 _ q hg221 hq; omega)
            have hz229 := (hu226).size
            refine TL.noPan (l := []) ?_
            refine NX.blk_n ?_
            refine NX.seq ?_
            refine WC.region ?_
            refine TL.yld rfl rfl (yld_add rfl rfl rfl) ?_
            refine TL.yld rfl rfl (yld_move rfl rfl) ?_
            refine TL.done ?_
            refine NX.then_n ?_
            intro a hK; exact ⟨m124, Nat.lt_succ_self m124, (IntKind.wrap IntKind.i64 (i119 + 1)), ((l120.set (x127.To).toNat (IntKind.wrap IntKind.i64 ((IntKind.wrap IntKind.i64 (x147 + x127.Delay)) - x127.Shift)))), ((l122.set (x127.To).toNat true)), hK.weaken ⟨rfl, rfl, rfl, rfl, rfl, rfl, trivial⟩, he228, (by omega), hs216, hs227, hF⟩
          · intro hc230
            replace hF := bif_f hc230 hF
            refine WC.skip' ?_
            refine NX.blk_n ?_
            refine NX.seq ?_
            refine WC.region ?_
            refine TL.yld rfl rfl (yld_add rfl rfl rfl) ?_
            refine TL.yld rfl rfl (yld_move rfl rfl) ?_
            refine TL.done ?_
            refine NX.then_n ?_
            intro a hK; exact ⟨m124, Nat.lt_succ_self m124, (IntKind.wrap IntKind.i64 (i119 + 1)), l120, l122, hK.weaken ⟨rfl, rfl, rfl, rfl, rfl, rfl, trivial⟩, he178, (by omega), hs121, hs123, hF⟩
        · intro hc231
          replace hF := bif_f hc231 hF
          refine WC.exit' ?_
          refine NX.then_e ?_
          refine NX.then_e ?_
          refine NX.blk_hit ?_
          refine NX.seq ?_
          refine WC.seq ?_
          refine WC.region ?_
          refine TL.yld rfl rfl (yld_move rfl rfl) ?_
          refine TL.yld rfl rfl (yld_move rfl rfl) ?_
          refine TL.yld rfl rfl (yld_assign rfl rfl) ?_
          refine TL.yld rfl rfl (yld_assign rfl rfl) ?_
          refine TL.done ?_
          refine NX.seq ?_
          refine WC.ret' ?_
          obtain rfl := Option.some.inj hF
          exact NX.end (rs := [.tmp 4, .tmp 5]) (vs := [v47, v50]) rfl ⟨rfl, rfl, trivial⟩ ⟨_, rfl, _, _, rfl, ownR.base hs121 (by omega), ownR.base hs123 (by omega), hp56, he118⟩

-- (loop.example/g00861/impl.LatchSystem).departures
def F_impl_LatchSystem_departures_L3 (l37 : List Int) (r40 : (List Int) × (List Bool)) (k4 : Bool → Int → (List Int) → Option ((List Int) × Bool)) : Nat → Bool → Int → (List Int) → Option ((List Int) × Bool)
  | 0 => fun _ _ _ => none
  | m + 1 => fun q57 i58 l60 => (bif decide (i58 < (l37.length : Int)) then (Option.bind (getI r40.2 i58) fun x65 => (Option.bind (bif x65 then (Option.bind (getI r40.1 i58) fun x72 => (Option.bind (getI l60 i58) fun x79 => (some (decide (x72 > x79))))) else (some false)) fun c72 => (bif c72 then (Option.bind (getI r40.1 i58) fun x94 => (Option.bind (getI l60 i58) fun x101 => (F_impl_LatchSystem_departures_L3 l37 r40 k4 m true (IntKind.wrap IntKind.i64 (i58 + 1)) ((l60.set (i58).toNat x94))))) else (F_impl_LatchSystem_departures_L3 l37 r40 k4 m q57 (IntKind.wrap IntKind.i64 (i58 + 1)) l60)))) else (k4 q57 i58 l60))
theorem F_impl_LatchSystem_departures_L3_z (l37 : List Int) (r40 : (List Int) × (List Bool)) (k4 : Bool → Int → (List Int) → Option ((List Int) × Bool)) (q57 : Bool) (i58 : Int) (l60 : List Int) : F_impl_LatchSystem_departures_L3 l37 r40 k4 0 q57 i58 l60 = none := rfl
theorem F_impl_LatchSystem_departures_L3_s (m : Nat) (l37 : List Int) (r40 : (List Int) × (List Bool)) (k4 : Bool → Int → (List Int) → Option ((List Int) × Bool)) (q57 : Bool) (i58 : Int) (l60 : List Int) : F_impl_LatchSystem_departures_L3 l37 r40 k4 (m + 1) q57 i58 l60 = (bif decide (i58 < (l37.length : Int)) then (Option.bind (getI r40.2 i58) fun x65 => (Option.bind (bif x65 then (Option.bind (getI r40.1 i58) fun x72 => (Option.bind (getI l60 i58) fun x79 => (some (decide (x72 > x79))))) else (some false)) fun c72 => (bif c72 then (Option.bind (getI r40.1 i58) fun x94 => (Option.bind (getI l60 i58) fun x101 => (F_impl_LatchSystem_departures_L3 l37 r40 k4 m true (IntKind.wrap IntKind.i64 (i58 + 1)) ((l60.set (i58).toNat x94))))) else (F_impl_LatchSystem_departures_L3 l37 r40 k4 m q57 (IntKind.wrap IntKind.i64 (i58 + 1)) l60)))) else (k4 q57 i58 l60)) := rfl

def F_impl_LatchSystem_departures_L2 (n : Nat) (a0_s : S_LatchSystem) (l31 : List Int) (k2 : Int → (List Int) → Option ((List Int) × Bool)) : Nat → Int → (List Int) → Option ((List Int) × Bool)
  | 0 => fun _ _ => none
  | m + 1 => fun i35 l37 => (bif decide (i35 < IntKind.wrap IntKind.i64 (((l31.length : Int)) + 1)) then (Option.bind (F_impl_LatchSystem_arrivals n a0_s l37) fun r40 => (F_impl_LatchSystem_departures_L3 l37 r40 (fun q57 i58 l60 => (bif (!q57) then (some (l60, true)) else (F_impl_LatchSystem_departures_L2 n a0_s l31 k2 m (IntKind.wrap IntKind.i64 (i35 + 1)) l60))) n false 0 l37)) else (k2 i35 l37))
theorem F_impl_LatchSystem_departures_L2_z (n : Nat) (a0_s : S_LatchSystem) (l31 : List Int) (k2 : Int → (List Int) → Option ((List Int) × Bool)) (i35 : Int) (l37 : List Int) : F_impl_LatchSystem_departures_L2 n a0_s l31 k2 0 i35 l37 = none := rfl
theorem F_impl_LatchSystem_departures_L2_s (m : Nat) (n : Nat) (a0_s : S_LatchSystem) (l31 : List Int) (k2 : Int → (List Int) → Option ((List Int) × Bool)) (i35 : Int) (l37 : List Int) : F_impl_LatchSystem_departures_L2 n a0_s l31 k2 (m + 1) i35 l37 = (bif decide (i35 < IntKind.wrap IntKind.i64 (((l31.length : Int)) + 1)) then (Option.bind (F_impl_LatchSystem_arrivals n a0_s l37) fun r40 => (F_impl_LatchSystem_departures_L3 l37 r40 (fun q57 i58 l60 => (bif (!q57) then (some (l60, true)) else (F_impl_LatchSystem_departures_L2 n a0_s l31 k2 m (IntKind.wrap IntKind.i64 (i35 + 1)) l60))) n false 0 l37)) else (k2 i35 l37)) := rfl

def F_impl_LatchSystem_departures_L1 (a0_s : S_LatchSystem) (k0 : Int → (List Int) → Option ((List Int) × Bool)) : Nat → Int → (List Int) → Option ((List Int) × Bool)
  | 0 => fun _ _ => none
  | m + 1 => fun i29 l31 => (bif decide (i29 < (a0_s.Latches.length : Int)) then (Option.bind (getI a0_s.Latches i29) fun x34 => (Option.bind (getI l31 i29) fun x54 => (F_impl_LatchSystem_departures_L1 a0_s k0 m (IntKind.wrap IntKind.i64 (i29 + 1)) ((l31.set (i29).toNat x34.Open))))) else (k0 i29 l31))
theorem F_impl_LatchSystem_departures_L1_z (a0_s : S_LatchSystem) (k0 : Int → (List Int) → Option ((List Int) × Bool)) (i29 : Int) (l31 : List Int) : F_impl_LatchSystem_departures_L1 a0_s k0 0 i29 l31 = none := rfl
theorem F_impl_LatchSystem_departures_L1_s (m : Nat) (a0_s : S_LatchSystem) (k0 : Int → (List Int) → Option ((List Int) × Bool)) (i29 : Int) (l31 : List Int) : F_impl_LatchSystem_departures_L1 a0_s k0 (m + 1) i29 l31 = (bif decide (i29 < (a0_s.Latches.length : Int)) then (Option.bind (getI a0_s.Latches i29) fun x34 => (Option.bind (getI l31 i29) fun x54 => (F_impl_LatchSystem_departures_L1 a0_s k0 m (IntKind.wrap IntKind.i64 (i29 + 1)) ((l31.set (i29).toNat x34.Open))))) else (k0 i29 l31)) := rfl

def F_impl_LatchSystem_departures (n : Nat) (a0_s : S_LatchSystem) : Option ((List Int) × Bool) := (Option.bind (mkN ((a0_s.Latches.length : Int)) 8) fun n12 => (F_impl_LatchSystem_departures_L1 a0_s (fun i29 l31 => (F_impl_LatchSystem_departures_L2 n a0_s l31 (fun i35 l37 => (some (([] : List Int), false))) n 0 l31)) n 0 (List.replicate n12 0)))
set_option maxHeartbeats 4000000 in
theorem W_impl_LatchSystem_departures {n : Nat} {a0_s : S_LatchSystem} {r : (List Int) × Bool} {w : World} {v1 : Value} {v3 : Value} (hF : F_impl_LatchSystem_departures n a0_s = some r) (ha2 : slRep C_Latch w (Iv 0 w.heap.size) a0_s.Latches v1) (ha4 : slRep C_LatchLink w (Iv 0 w.heap.size) a0_s.Links v3) :
    Calls Try.prog 94 [.agg #[v1, v3]].toArray w (Ret fun u w2 => ∃ v0_0, u = .tuple #[v0_0, .bool r.2] ∧ ownR (cInt .i64) w2 w.heap.size (Iv 0 0) 2 r.1 v0_0 ∧ Ext w w2) := by
  refine calls_of Try.func94 rfl Try.ntmps94 ?_
  have he0 : Ext w w := Ext.refl w
  unfold F_impl_LatchSystem_departures at hF
  refine WC.seq ?_
  refine WC.region ?_
  refine TL.eff rfl rfl (eff_box rfl rfl) ?_
  rintro _ w6 ⟨b5, rfl, hn7⟩
  obtain ⟨hn7e, hn7s, hn7x, hb8⟩ := hn7
  have hb8 : Box w6 b5 [v1, v3] 38 := hb8
  have he10 : Ext w w6 := Ext.trans he0 hn7x
  have hz11 := (hn7x).size
  have hlo9 : w.heap.size ≤ b5 := by rw [hn7e]; exact (he0).size
  refine TL.yld rfl rfl (yld_assign rfl rfl) ?_
  refine TL.yld rfl rfl (yld_assign rfl rfl) ?_
  refine TL.done ?_
  refine NX.seq ?_
  refine WC.seq ?_
  refine WC.region ?_
  refine TL.yld rfl rfl (yld_fieldAddr rfl fo_38_0 rfl) ?_
  refine TL.yld rfl rfl (yld_load1 0 rfl ag_35 rfl (Box.cells hb8) rfl rfl) ?_
  refine TL.yld rfl rfl (ye_len (c := C_Latch) rfl Try.underlying35 rfl (slRep.old ha2 he10 (Nat.le_refl _))) ?_
  obtain ⟨n12, hk13, hF⟩ := bsome hF
  refine TL.eff rfl rfl (eff_make (c := (cInt .i64)) (z := 0) rfl Try.underlying45 in_2 rfl rfl rfl hk13 rfl rfl (fun _ => rfl)) ?_
  rintro v14 w15 ⟨g16, hv17, hg18, hz19, hx20, hs21⟩
  have he22 : Ext w w15 := Ext.trans he10 hx20
  have hb8 := Box.ext hb8 hx20
  have hz23 := (hx20).size
  have hlo24 : w.heap.size ≤ g16 := by rw [hg18]; exact (he10).size
  have hbd25 := bd_of hv17
  clear hv17
  refine TL.yld rfl rfl (yld_assign rfl rfl) ?_
  refine TL.done ?_
  refine NX.seq ?_
  refine WC.seq ?_
  refine WC.seq ?_
  refine WC.region ?_
  refine TL.yld rfl rfl (yld_fieldAddr rfl fo_38_0 rfl) ?_
  refine TL.yld rfl rfl (yld_load1 0 rfl ag_35 rfl (Box.cells hb8) rfl rfl) ?_
  refine TL.yld rfl rfl (ye_len (c := C_Latch) rfl Try.underlying35 rfl (slRep.old ha2 he22 (Nat.le_refl _))) ?_
  refine TL.yld rfl rfl (yld_move rfl rfl) ?_
  refine TL.done ?_
  refine NX.seq ?_
  refine WC.block ?_
  refine WC.loop (fun m33 a wl => ∃ (i29 : Int) (l31 : List Int), Kn 72 [(1, .pointer (some ⟨b5, 0, none⟩)), (4, v14), (16, v1), (17, .int .i64 ((a0_s.Latches.length : Int))), (18, .int .i64 i29)] a ∧ Ext w wl ∧ w15.heap.size ≤ wl.heap.size ∧ Box wl b5 [v1, v3] 38 ∧ ownR (cInt .i64) wl (g16) (Iv 0 0) 2 l31 v14 ∧ F_impl_LatchSystem_departures_L1 a0_s (fun i29 l31 => (F_impl_LatchSystem_departures_L2 n a0_s l31 (fun i35 l37 => (some (([] : List Int), false))) n 0 l31)) m33 i29 l31 = some r) n ?_ ?_
  · intro a hK; exact ⟨0, (List.replicate n12 0), hK.weaken ⟨rfl, rfl, rfl, rfl, rfl, trivial⟩, he22, Nat.le_refl _, hb8, hs21, hF⟩
  · rintro m33 a w27 ⟨i29, l31, hK, he28, hz34, hb30, hs32, hF⟩
    revert hK; revert a; refine (?_ : WC _ _ _ _ _ _)
    cases m33 with
    | zero => rw [F_impl_LatchSystem_departures_L1_z] at hF; cases hF
    | succ m33 =>
      rw [F_impl_LatchSystem_departures_L1_s] at hF
      refine WC.seq ?_
      refine WC.region ?_
      refine TL.yld rfl rfl (yld_lss rfl rfl rfl) ?_
      refine TL.done ?_
      refine NX.seq ?_
      refine WC.seq ?_
      refine WC.cond rfl ?_ ?_
      · intro hc35
        replace hF := bif_t hc35 hF
        refine WC.skip' ?_
        refine NX.seq ?_
        refine WC.seq ?_
        refine WC.block ?_
        refine WC.seq ?_
        refine WC.region ?_
        refine TL.yld rfl rfl (yld_move rfl rfl) ?_
        obtain ⟨x36, hy37, hF⟩ := bsome hF
        refine TL.ye rfl rfl (ye_index (c := C_Latch) rfl Try.underlying35 cn_50 rfl rfl (slRep.old ha2 he28 (Nat.le_refl _)) hy37) ?_
        rintro _ ⟨b38, o39, us40, rfl, hib43, hr41, hcl42⟩
        have hib43 : 0 ≤ b38 ∧ b38 < w.heap.size := ⟨hib43.1, by have := hib43.2; omega⟩
        obtain rfl := C_Latch_open hr41
        refine TL.yld rfl rfl (yld_loadN (us := [.int .i64 x36.Open, .int .i64 x36.Close]) rfl ag_50 rfl hcl42 cn_50) ?_
        refine TL.eff rfl rfl (eff_alloc rfl zn_50) ?_
        rintro _ w45 ⟨b44, rfl, hn46⟩
        obtain ⟨hn46e, hn46s, hn46x, hb47⟩ := hn46
        have hb47 : Box w45 b44 [.int .i64 0, .int .i64 0] 50 := hb47
        have he49 : Ext w w45 := Ext.trans he28 hn46x
        have hb30 := Box.ext hb30 hn46x
        have hs32 := ownR.ext hs32 hn46x
        have hz50 := (hn46x).size
        have hlo48 : w.heap.size ≤ b44 := by rw [hn46e]; exact (he28).size
        refine TL.yld rfl rfl (yld_assign rfl rfl) ?_
        refine TL.eff rfl rfl (eff_store rfl rfl rfl hb47 cn_50 rfl rfl) ?_
        rintro _ w51 ⟨hu52, hb53⟩
        have he54 : Ext w w51 := Below.trans he49 (Upd.below hu52 (by omega))
        have hb30 := Box.upd hb30 hu52 (by omega)
        have hs32 := ownR.upd hs32 hu52 (fun g hg => by have := hbd25 g hg; omega)
        have hz55 := (hu52).size
        have hb47 : Box w51 b44 [.int .i64 x36.Open, .int .i64 x36.Close] 50 := hb53
        refine TL.done ?_
        refine NX.seq ?_
        refine WC.region ?_
        refine TL.yld rfl rfl (yld_move rfl rfl) ?_
        refine TL.yld rfl rfl (yld_move rfl rfl) ?_
        refine TL.yld rfl rfl (yld_fieldAddr rfl fo_50_0 rfl) ?_
        refine TL.yld rfl rfl (yld_load1 0 rfl ag_2 rfl (Box.cells hb47) rfl rfl) ?_
        obtain ⟨x56, hy57, hF⟩ := bsome hF
        refine TL.ye rfl rfl (ye_index_own (c := (cInt .i64)) rfl Try.underlying45 cn_2 rfl rfl hs32 hy57) ?_
        rintro _ ⟨g58, us60, rfl, hg59, hr61, hcl62⟩
        have hr61r := hr61
        obtain rfl := hr61
        refine TL.eff rfl rfl (eff_store_own (c := (cInt .i64)) (us' := [.int .i64 x36.Open]) (y' := x36.Open) 0 _ rfl rfl rfl hs32 hg59 hy57 rfl cn_2 rfl hr61r hcl62 rfl rfl rfl (fun k h => absurd h.2 (Nat.not_lt_zero k))) ?_
        rintro _ w63 ⟨hu64, hs65⟩
        have he66 : Ext w w63 := Below.trans he54 (Upd.below hu64 (by have := hbd25 _ hg59; omega))
        have hb30 := Box.upd hb30 hu64 (by have := hbd25 _ hg59; omega)
        have hb47 := Box.upd hb47 hu64 (by have := hbd25 _ hg59; omega)
        have hz67 := (hu64).size
        refine TL.done ?_
        refine NX.blk_n ?_
        refine NX.seq ?_
        refine WC.region ?_
        refine TL.yld rfl rfl (yld_add rfl rfl rfl) ?_
        refine TL.yld rfl rfl (yld_move rfl rfl) ?_
        refine TL.done ?_
        refine NX.then_n ?_
        intro a hK; exact ⟨m33, Nat.lt_succ_self m33, (IntKind.wrap IntKind.i64 (i29 + 1)), ((l31.set (i29).toNat x36.Open)), hK.weaken ⟨rfl, rfl, rfl, rfl, rfl, trivial⟩, he66, (by omega), hb30, hs65, hF⟩
      · intro hc68
        replace hF := bif_f hc68 hF
        refine WC.exit' ?_
        refine NX.then_e ?_
        refine NX.then_e ?_
        refine NX.blk_hit ?_
        refine NX.seq ?_
        refine WC.seq ?_
        refine WC.seq ?_
        refine WC.region ?_
        refine TL.yld rfl rfl (yld_move rfl rfl) ?_
        refine TL.yld rfl rfl (yld_len_own (c := (cInt .i64)) rfl Try.underlying45 rfl hs32) ?_
        refine TL.yld rfl rfl (yld_add rfl rfl rfl) ?_
        refine TL.yld rfl rfl (yld_move rfl rfl) ?_
        refine TL.done ?_
        refine NX.seq ?_
        refine WC.block ?_
        refine WC.loop (fun m75 a wl => ∃ (i71 : Int) (l73 : List Int), Kn 72 [(1, .pointer (some ⟨b5, 0, none⟩)), (4, v14), (31, .int .i64 (IntKind.wrap IntKind.i64 (((l31.length : Int)) + 1))), (32, .int .i64 i71)] a ∧ Ext w wl ∧ w27.heap.size ≤ wl.heap.size ∧ Box wl b5 [v1, v3] 38 ∧ ownR (cInt .i64) wl (g16) (Iv 0 0) 2 l73 v14 ∧ F_impl_LatchSystem_departures_L2 n a0_s l31 (fun i71 l73 => (some (([] : List Int), false))) m75 i71 l73 = some r) n ?_ ?_
        · intro a hK; exact ⟨0, l31, hK.weaken ⟨rfl, rfl, rfl, rfl, trivial⟩, he28, Nat.le_refl _, hb30, hs32, hF⟩
        · rintro m75 a w69 ⟨i71, l73, hK, he70, hz76, hb72, hs74, hF⟩
          revert hK; revert a; refine (?_ : WC _ _ _ _ _ _)
          cases m75 with
          | zero => rw [F_impl_LatchSystem_departures_L2_z] at hF; cases hF
          | succ m75 =>
            rw [F_impl_LatchSystem_departures_L2_s] at hF
            refine WC.seq ?_
            refine WC.region ?_
            refine TL.yld rfl rfl (yld_lss rfl rfl rfl) ?_
            refine TL.done ?_
            refine NX.seq ?_
            refine WC.seq ?_
            refine WC.cond rfl ?_ ?_
            · intro hc77
              replace hF := bif_t hc77 hF
              refine WC.skip' ?_
              refine NX.seq ?_
              refine WC.seq ?_
              refine WC.block ?_
              refine WC.seq ?_
              refine WC.region ?_
              refine TL.yld rfl rfl (yld_loadN (us := [v1, v3]) rfl ag_38 rfl (Box.cells hb72) cn_38) ?_
              refine TL.yld rfl rfl (yld_move rfl rfl) ?_
              obtain ⟨r78, hr79, hF⟩ := bsome hF
              refine TL.eff rfl rfl (eff_call rfl gf_78 rfl (W_impl_LatchSystem_arrivals hr79 ((slRep.old ha2 he70 (Nat.le_refl _)).wide (Nat.le_refl _) (he70).size) ((slRep.old ha4 he70 (Nat.le_refl _)).wide (Nat.le_refl _) (he70).size) (ownR.slf hs74 (Nat.zero_le _) (Nat.le_refl _)))) ?_
              rintro _ w80 ⟨v82, v86, rfl, hs83, hs87, hp90, hx81⟩
              have he91 : Ext w w80 := Ext.trans he70 hx81
              have hb72 := Box.ext hb72 hx81
              have hs74 := ownR.ext hs74 hx81
              have hz92 := (hx81).size
              have hbd85 := ownR.blk hs83
              have hbd89 := ownR.blk hs87
              refine TL.yld rfl rfl (yld_move rfl rfl) ?_
              refine TL.yld rfl rfl (yld_extract rfl rfl rfl) ?_
              refine TL.yld rfl rfl (yld_extract rfl rfl rfl) ?_
              refine TL.yld rfl rfl (yld_assign rfl rfl) ?_
              refine TL.yld rfl rfl (yld_assign rfl rfl) ?_
              refine TL.done ?_
              refine NX.seq ?_
              refine WC.seq ?_
              refine WC.region ?_
              refine TL.yld rfl rfl (yld_assign rfl rfl) ?_
              refine TL.done ?_
              refine NX.seq ?_
              refine WC.seq ?_
              refine WC.seq ?_
              refine WC.region ?_
              refine TL.yld rfl rfl (yld_move rfl rfl) ?_
              refine TL.yld rfl rfl (yld_len_own (c := (cInt .i64)) rfl Try.underlying45 rfl hs74) ?_
              refine TL.yld rfl rfl (yld_move rfl rfl) ?_
              refine TL.done ?_
              refine NX.seq ?_
              refine WC.block ?_
              refine WC.loop (fun m102 a wl => ∃ (q95 : Bool) (i96 : Int) (l98 : List Int), Kn 72 [(1, .pointer (some ⟨b5, 0, none⟩)), (4, v14), (7, v82), (8, v86), (9, .bool q95), (31, .int .i64 (IntKind.wrap IntKind.i64 (((l31.length : Int)) + 1))), (32, .int .i64 i71), (41, .int .i64 ((l73.length : Int))), (42, .int .i64 i96)] a ∧ Ext w wl ∧ w80.heap.size ≤ wl.heap.size ∧ Box wl b5 [v1, v3] 38 ∧ ownR (cInt .i64) wl (g16) (Iv 0 0) 2 l98 v14 ∧ ownR (cInt .i64) wl (w69.heap.size) (Iv 0 0) 2 r78.1 v82 ∧ ownR cBool wl (w69.heap.size) (Iv 0 0) 4 r78.2 v86 ∧ F_impl_LatchSystem_departures_L3 l73 r78 (fun q95 i96 l98 => (bif (!q95) then (some (l98, true)) else (F_impl_LatchSystem_departures_L2 n a0_s l31 (fun i71 l73 => (some (([] : List Int), false))) m75 (IntKind.wrap IntKind.i64 (i71 + 1)) l98))) m102 q95 i96 l98 = some r) n ?_ ?_
              · intro a hK; exact ⟨false, 0, l73, hK.weaken ⟨rfl, rfl, rfl, rfl, rfl, rfl, rfl, rfl, rfl, trivial⟩, he91, Nat.le_refl _, hb72, hs74, hs83, hs87, hF⟩
              · rintro m102 a w93 ⟨q95, i96, l98, hK, he94, hz103, hb97, hs99, hs100, hs101, hF⟩
                revert hK; revert a; refine (?_ : WC _ _ _ _ _ _)
                cases m102 with
                | zero => rw [F_impl_LatchSystem_departures_L3_z] at hF; cases hF
                | succ m102 =>
                  rw [F_impl_LatchSystem_departures_L3_s] at hF
                  refine WC.seq ?_
                  refine WC.region ?_
                  refine TL.yld rfl rfl (yld_lss rfl rfl rfl) ?_
                  refine TL.done ?_
                  refine NX.seq ?_
                  refine WC.seq ?_
                  refine WC.cond rfl ?_ ?_
                  · intro hc104
                    replace hF := bif_t hc104 hF
                    refine WC.skip' ?_
                    refine NX.seq ?_
                    refine WC.seq ?_
                    refine WC.block ?_
                    refine WC.seq ?_
                    refine WC.region ?_
                    refine TL.yld rfl rfl (yld_move rfl rfl) ?_
                    refine TL.yld rfl rfl (yld_assign rfl rfl) ?_
                    refine TL.done ?_
                    refine NX.seq ?_
                    refine WC.seq ?_
                    refine WC.quiet Try.hm (by kernel_rfl) ?_
                    refine QL.yld rfl rfl (Yld.qui (yld_move rfl rfl)) ?_
                    refine QL.yld rfl rfl (Yld.qui (yld_move rfl rfl)) ?_
                    obtain ⟨x105, hy106, hF⟩ := bsome hF
                    refine QL.ye rfl rfl (ye_index_own (c := cBool) rfl Try.underlying95 cn_4 rfl rfl hs101 hy106) ?_
                    rintro _ ⟨g107, us109, rfl, hg108, hr110, hcl111⟩
                    have hr110r := hr110
                    obtain rfl := hr110
                    refine QL.yld rfl rfl (Yld.qui (yld_load1 0 rfl ag_4 rfl hcl111 rfl rfl)) ?_
                    refine QL.yld rfl rfl (Yld.qui (yld_move rfl rfl)) ?_
                    obtain ⟨c112, hb113, hF⟩ := bsome hF
                    refine QL.cut 10 [(1, .pointer (some ⟨b5, 0, none⟩)), (4, v14), (7, v82), (8, v86), (9, .bool q95), (10, .int .i64 i96), (31, .int .i64 (IntKind.wrap IntKind.i64 (((l31.length : Int)) + 1))), (32, .int .i64 i71), (41, .int .i64 ((l73.length : Int))), (42, .int .i64 i96), (59, .bool c112)] ?_ ?_
                    · rcases Bool.eq_false_or_eq_true x105 with hg114 | hg114
                      ·
                        rw [hg114] at hb113; simp only [cond_true, cond_false] at hb113
                        replace hF := hb113
                        refine QL.gy (j := 4) (t := 49) rfl rfl rfl hg114 rfl (Yld.qui (yld_move rfl rfl)) ?_
                        refine QL.gy (j := 4) (t := 49) rfl rfl rfl hg114 rfl (Yld.qui (yld_move rfl rfl)) ?_
                        obtain ⟨x115, hy116, hF⟩ := bsome hF
                        refine QL.yeg (j := 4) (t := 49) rfl rfl rfl hg114 rfl (ye_index_own (c := (cInt .i64)) rfl Try.underlying45 cn_2 rfl rfl hs100 hy116) ?_
                        rintro _ ⟨g117, us119, rfl, hg118, hr120, hcl121⟩
                        have hr120r := hr120
                        obtain rfl := hr120
                        refine QL.gy (j := 4) (t := 49) rfl rfl rfl hg114 rfl (Yld.qui (yld_load1 0 rfl ag_2 rfl hcl121 rfl rfl)) ?_
                        refine QL.gy (j := 4) (t := 49) rfl rfl rfl hg114 rfl (Yld.qui (yld_move rfl rfl)) ?_
                        refine QL.gy (j := 4) (t := 49) rfl rfl rfl hg114 rfl (Yld.qui (yld_move rfl rfl)) ?_
                        obtain ⟨x122, hy123, hF⟩ := bsome hF
                        refine QL.yeg (j := 4) (t := 49) rfl rfl rfl hg114 rfl (ye_index_own (c := (cInt .i64)) rfl Try.underlying45 cn_2 rfl rfl hs99 hy123) ?_
                        rintro _ ⟨g124, us126, rfl, hg125, hr127, hcl128⟩
                        have hr127r := hr127
                        obtain rfl := hr127
                        refine QL.gy (j := 4) (t := 49) rfl rfl rfl hg114 rfl (Yld.qui (yld_load1 0 rfl ag_2 rfl hcl128 rfl rfl)) ?_
                        refine QL.gy (j := 4) (t := 49) rfl rfl rfl hg114 rfl (Yld.qui (yld_gtr rfl rfl rfl)) ?_
                        obtain rfl := Option.some.inj hF
                        refine QL.yld rfl rfl (Yld.qui (yld_pick_t rfl rfl hg114 rfl)) ?_
                        exact QL.nil fun a h => h.weaken ⟨rfl, rfl, rfl, rfl, rfl, rfl, rfl, rfl, rfl, rfl, rfl, trivial⟩
                      ·
                        rw [hg114] at hb113; simp only [cond_true, cond_false] at hb113
                        refine QL.gnu (j := 4) (t := 49) rfl rfl rfl hg114 rfl ?_
                        refine QL.gnu (j := 4) (t := 49) rfl rfl rfl hg114 rfl ?_
                        refine QL.gnu (j := 4) (t := 49) rfl rfl rfl hg114 rfl ?_
                        refine QL.gnu (j := 4) (t := 49) rfl rfl rfl hg114 rfl ?_
                        refine QL.gnu (j := 4) (t := 49) rfl rfl rfl hg114 rfl ?_
                        refine QL.gnu (j := 4) (t := 49) rfl rfl rfl hg114 rfl ?_
                        refine QL.gnu (j := 4) (t := 49) rfl rfl rfl hg114 rfl ?_
                        refine QL.gnu (j := 4) (t := 49) rfl rfl rfl hg114 rfl ?_
                        refine QL.gnu (j := 4) (t := 49) rfl rfl rfl hg114 rfl ?_
                        obtain rfl := Option.some.inj hb113
                        refine QL.yld rfl rfl (Yld.qui (yld_pick_f rfl rfl hg114 rfl)) ?_
                        exact QL.nil fun a h => h.weaken ⟨rfl, rfl, rfl, rfl, rfl, rfl, rfl, rfl, rfl, rfl, rfl, trivial⟩
                    refine QL.done fun w129 hx130 => ?_
                    have he131 : Ext w w129 := Ext.trans he94 hx130
                    have hb97 := Box.ext hb97 hx130
                    have hs99 := ownR.ext hs99 hx130
                    have hs100 := ownR.ext hs100 hx130
                    have hs101 := ownR.ext hs101 hx130
                    have hz132 := (hx130).size
                    refine NX.seq ?_
                    refine WC.cond rfl ?_ ?_
                    · intro hc133
                      replace hF := bif_t hc133 hF
                      refine WC.region ?_
                      refine TL.yld rfl rfl (yld_move rfl rfl) ?_
                      refine TL.yld rfl rfl (yld_move rfl rfl) ?_
                      refine TL.yld rfl rfl (yld_move rfl rfl) ?_
                      refine TL.yld rfl rfl (yld_move rfl rfl) ?_
                      obtain ⟨x134, hy135, hF⟩ := bsome hF
                      refine TL.ye rfl rfl (ye_index_own (c := (cInt .i64)) rfl Try.underlying45 cn_2 rfl rfl hs100 hy135) ?_
                      rintro _ ⟨g136, us138, rfl, hg137, hr139, hcl140⟩
                      have hr139r := hr139
                      obtain rfl := hr139
                      refine TL.yld rfl rfl (yld_load1 0 rfl ag_2 rfl hcl140 rfl rfl) ?_
                      obtain ⟨x141, hy142, hF⟩ := bsome hF
                      refine TL.ye rfl rfl (ye_index_own (c := (cInt .i64)) rfl Try.underlying45 cn_2 rfl rfl hs99 hy142) ?_
                      rintro _ ⟨g143, us145, rfl, hg144, hr146, hcl147⟩
                      have hr146r := hr146
                      obtain rfl := hr146
                      refine TL.eff rfl rfl (eff_store_own (c := (cInt .i64)) (us' := [.int .i64 x134]) (y' := x134) 0 _ rfl rfl rfl hs99 hg144 hy142 rfl cn_2 rfl hr146r hcl147 rfl rfl rfl (fun k h => absurd h.2 (Nat.not_lt_zero k))) ?_
                      rintro _ w148 ⟨hu149, hs150⟩
                      have he151 : Ext w w148 := Below.trans he131 (Upd.below hu149 (by have := hbd25 _ hg144; omega))
                      have hb97 := Box.upd hb97 hu149 (by have := hbd25 _ hg144; omega)
                      have hs100 := ownR.upd hs100 hu149 (fun q hq => by have := hbd85 q hq; have := hbd25 _ hg144; omega)
                      have hs101 := ownR.upd hs101 hu149 (fun q hq => by have := hbd89 q hq; have := hbd25 _ hg144; omega)
                      have hz152 := (hu149).size
                      refine TL.yld rfl rfl (yld_assign rfl rfl) ?_
                      refine TL.done ?_
                      refine NX.blk_n ?_
                      refine NX.seq ?_
                      refine WC.region ?_
                      refine TL.yld rfl rfl (yld_add rfl rfl rfl) ?_
                      refine TL.yld rfl rfl (yld_move rfl rfl) ?_
                      refine TL.done ?_
                      refine NX.then_n ?_
                      intro a hK; exact ⟨m102, Nat.lt_succ_self m102, true, (IntKind.wrap IntKind.i64 (i96 + 1)), ((l98.set (i96).toNat x134)), hK.weaken ⟨rfl, rfl, rfl, rfl, rfl, rfl, rfl, rfl, rfl, trivial⟩, he151, (by omega), hb97, hs150, hs100, hs101, hF⟩
                    · intro hc153
                      replace hF := bif_f hc153 hF
                      refine WC.skip' ?_
                      refine NX.blk_n ?_
                      refine NX.seq ?_
                      refine WC.region ?_
                      refine TL.yld rfl rfl (yld_add rfl rfl rfl) ?_
                      refine TL.yld rfl rfl (yld_move rfl rfl) ?_
                      refine TL.done ?_
                      refine NX.then_n ?_
                      intro a hK; exact ⟨m102, Nat.lt_succ_self m102, q95, (IntKind.wrap IntKind.i64 (i96 + 1)), l98, hK.weaken ⟨rfl, rfl, rfl, rfl, rfl, rfl, rfl, rfl, rfl, trivial⟩, he131, (by omega), hb97, hs99, hs100, hs101, hF⟩
                  · intro hc154
                    replace hF := bif_f hc154 hF
                    refine WC.exit' ?_
                    refine NX.then_e ?_
                    refine NX.then_e ?_
                    refine NX.blk_hit ?_
                    refine NX.seq ?_
                    refine WC.seq ?_
                    refine WC.region ?_
                    refine TL.yld rfl rfl (yld_move rfl rfl) ?_
                    refine TL.yld rfl rfl (yld_not rfl rfl) ?_
                    refine TL.done ?_
                    refine NX.seq ?_
                    refine WC.cond rfl ?_ ?_
                    · intro hc155
                      replace hF := bif_t hc155 hF
                      refine WC.seq ?_
                      refine WC.region ?_
                      refine TL.yld rfl rfl (yld_move rfl rfl) ?_
                      refine TL.yld rfl rfl (yld_assign rfl rfl) ?_
                      refine TL.yld rfl rfl (yld_assign rfl rfl) ?_
                      refine TL.done ?_
                      refine NX.seq ?_
                      refine WC.ret' ?_
                      refine NX.blk_r ?_
                      refine NX.then_r ?_
                      refine NX.then_r ?_
                      refine NX.blk_r ?_
                      refine NX.then_r ?_
                      obtain rfl := Option.some.inj hF
                      exact NX.end (rs := [.tmp 2, .tmp 3]) (vs := [v14, .bool true]) rfl ⟨rfl, rfl, trivial⟩ ⟨_, rfl, _, rfl, ownR.base hs99 (by omega), he94⟩
                    · intro hc156
                      replace hF := bif_f hc156 hF
                      refine WC.skip' ?_
                      refine NX.blk_n ?_
                      refine NX.seq ?_
                      refine WC.region ?_
                      refine TL.yld rfl rfl (yld_add rfl rfl rfl) ?_
                      refine TL.yld rfl rfl (yld_move rfl rfl) ?_
                      refine TL.done ?_
                      refine NX.then_n ?_
                      intro a hK; exact ⟨m75, Nat.lt_succ_self m75, (IntKind.wrap IntKind.i64 (i71 + 1)), l98, hK.weaken ⟨rfl, rfl, rfl, rfl, trivial⟩, he94, (by omega), hb97, hs99, hF⟩
            · intro hc157
              replace hF := bif_f hc157 hF
              refine WC.exit' ?_
              refine NX.then_e ?_
              refine NX.then_e ?_
              refine NX.blk_hit ?_
              refine NX.seq ?_
              refine WC.seq ?_
              refine WC.region ?_
              refine TL.yld rfl rfl (yld_assign rfl rfl) ?_
              refine TL.yld rfl rfl (yld_assign rfl rfl) ?_
              refine TL.done ?_
              refine NX.seq ?_
              refine WC.ret' ?_
              obtain rfl := Option.some.inj hF
              exact NX.end (rs := [.tmp 2, .tmp 3]) (vs := [.slice none 0 0, .bool false]) rfl ⟨rfl, rfl, trivial⟩ ⟨_, rfl, _, rfl, ownR.nil _ _ _ _ _, he70⟩

-- loop.example/g00861/impl.latchTimes
def F_impl_latchTimes_L1 (a0_s : S_LatchSystem) (r32 : (List Int) × (List Bool)) (k0 : Int → (List Int) → Option ((List Int) × (List Int) × Int)) : Nat → Int → (List Int) → Option ((List Int) × (List Int) × Int)
  | 0 => fun _ _ => none
  | m + 1 => fun i49 l51 => (bif decide (i49 < (a0_s.Latches.length : Int)) then (Option.bind (getI a0_s.Latches i49) fun x55 => (Option.bind (getI r32.2 i49) fun x75 => (bif (!x75) then (Option.bind (getI l51 i49) fun x83 => (F_impl_latchTimes_L1 a0_s r32 k0 m (IntKind.wrap IntKind.i64 (i49 + 1)) ((l51.set (i49).toNat x55.Open)))) else (F_impl_latchTimes_L1 a0_s r32 k0 m (IntKind.wrap IntKind.i64 (i49 + 1)) l51)))) else (k0 i49 l51))
theorem F_impl_latchTimes_L1_z (a0_s : S_LatchSystem) (r32 : (List Int) × (List Bool)) (k0 : Int → (List Int) → Option ((List Int) × (List Int) × Int)) (i49 : Int) (l51 : List Int) : F_impl_latchTimes_L1 a0_s r32 k0 0 i49 l51 = none := rfl
theorem F_impl_latchTimes_L1_s (m : Nat) (a0_s : S_LatchSystem) (r32 : (List Int) × (List Bool)) (k0 : Int → (List Int) → Option ((List Int) × (List Int) × Int)) (i49 : Int) (l51 : List Int) : F_impl_latchTimes_L1 a0_s r32 k0 (m + 1) i49 l51 = (bif decide (i49 < (a0_s.Latches.length : Int)) then (Option.bind (getI a0_s.Latches i49) fun x55 => (Option.bind (getI r32.2 i49) fun x75 => (bif (!x75) then (Option.bind (getI l51 i49) fun x83 => (F_impl_latchTimes_L1 a0_s r32 k0 m (IntKind.wrap IntKind.i64 (i49 + 1)) ((l51.set (i49).toNat x55.Open)))) else (F_impl_latchTimes_L1 a0_s r32 k0 m (IntKind.wrap IntKind.i64 (i49 + 1)) l51)))) else (k0 i49 l51)) := rfl

def F_impl_latchTimes (n : Nat) (a0_s : S_LatchSystem) : Option ((List Int) × (List Int) × Int) := (Option.bind (F_impl_IsLatchSystem n a0_s) fun r12 => (bif (!r12) then (some (([] : List Int), ([] : List Int), 1)) else (Option.bind (F_impl_LatchSystem_departures n a0_s) fun r20 => (bif (!r20.2) then (some (([] : List Int), ([] : List Int), 7)) else (Option.bind (F_impl_LatchSystem_arrivals n a0_s r20.1) fun r32 => (F_impl_latchTimes_L1 a0_s r32 (fun i49 l51 => (some (r20.1, l51, 0))) n 0 r32.1))))))
set_option maxHeartbeats 4000000 in
theorem W_impl_latchTimes {n : Nat} {a0_s : S_LatchSystem} {r : (List Int) × (List Int) × Int} {w : World} {v1 : Value} {v3 : Value} (hF : F_impl_latchTimes n a0_s = some r) (ha2 : slRep C_Latch w (Iv 0 w.heap.size) a0_s.Latches v1) (ha4 : slRep C_LatchLink w (Iv 0 w.heap.size) a0_s.Links v3) :
    Calls Try.prog 66 [.agg #[v1, v3]].toArray w (Ret fun u w2 => ∃ v0_0 v1_0, u = .tuple #[v0_0, v1_0, .int .i64 r.2.2] ∧ ownR (cInt .i64) w2 w.heap.size (Iv 0 0) 2 r.1 v0_0 ∧ ownR (cInt .i64) w2 w.heap.size (Iv 0 0) 2 r.2.1 v1_0 ∧ (∀ g q, v1_0.ownBlock = some g → v0_0.ownBlock = some q → g ≠ q) ∧ Ext w w2) := by
  refine calls_of Try.func66 rfl Try.ntmps66 ?_
  have he0 : Ext w w := Ext.refl w
  unfold F_impl_latchTimes at hF
  refine WC.seq ?_
  refine WC.region ?_
  refine TL.eff rfl rfl (eff_box rfl rfl) ?_
  rintro _ w6 ⟨b5, rfl, hn7⟩
  obtain ⟨hn7e, hn7s, hn7x, hb8⟩ := hn7
  have hb8 : Box w6 b5 [v1, v3] 38 := hb8
  have he10 : Ext w w6 := Ext.trans he0 hn7x
  have hz11 := (hn7x).size
  have hlo9 : w.heap.size ≤ b5 := by rw [hn7e]; exact (he0).size
  refine TL.yld rfl rfl (yld_assign rfl rfl) ?_
  refine TL.yld rfl rfl (yld_assign rfl rfl) ?_
  refine TL.yld rfl rfl (yld_assign rfl rfl) ?_
  refine TL.done ?_
  refine NX.seq ?_
  refine WC.seq ?_
  refine WC.seq ?_
  refine WC.region ?_
  refine TL.yld rfl rfl (yld_loadN (us := [v1, v3]) rfl ag_38 rfl (Box.cells hb8) cn_38) ?_
  obtain ⟨r12, hr13, hF⟩ := bsome hF
  refine TL.eff rfl rfl (eff_call rfl gf_21 rfl (W_impl_IsLatchSystem hr13 ((slRep.old ha2 he10 (Nat.le_refl _)).wide (Nat.le_refl _) (he10).size) ((slRep.old ha4 he10 (Nat.le_refl _)).wide (Nat.le_refl _) (he10).size))) ?_
  rintro _ w14 ⟨rfl, hx15⟩
  have he16 : Ext w w14 := Ext.trans he10 hx15
  have hb8 := Box.ext hb8 hx15
  have hz17 := (hx15).size
  refine TL.yld rfl rfl (yld_not rfl rfl) ?_
  refine TL.done ?_
  refine NX.seq ?_
  refine WC.cond rfl ?_ ?_
  · intro hc18
    replace hF := bif_t hc18 hF
    refine WC.seq ?_
    refine WC.region ?_
    refine TL.yld rfl rfl (yld_assign rfl rfl) ?_
    refine TL.yld rfl rfl (yld_assign rfl rfl) ?_
    refine TL.yld rfl rfl (yld_assign rfl rfl) ?_
    refine TL.done ?_
    refine NX.seq ?_
    refine WC.ret' ?_
    refine NX.then_r ?_
    obtain rfl := Option.some.inj hF
    exact NX.end (rs := [.tmp 2, .tmp 3, .tmp 4]) (vs := [.slice none 0 0, .slice none 0 0, .int .i64 1]) rfl ⟨rfl, rfl, rfl, trivial⟩ ⟨_, rfl, _, _, rfl, ownR.nil _ _ _ _ _, ownR.nil _ _ _ _ _, (fun g q hg hq => by first | cases hg | cases hq), he16⟩
  · intro hc19
    replace hF := bif_f hc19 hF
    refine WC.skip' ?_
    refine NX.seq ?_
    refine WC.seq ?_
    refine WC.region ?_
    refine TL.yld rfl rfl (yld_loadN (us := [v1, v3]) rfl ag_38 rfl (Box.cells hb8) cn_38) ?_
    obtain ⟨r20, hr21, hF⟩ := bsome hF
    refine TL.eff rfl rfl (eff_call rfl gf_94 rfl (W_impl_LatchSystem_departures hr21 ((slRep.old ha2 he16 (Nat.le_refl _)).wide (Nat.le_refl _) (he16).size) ((slRep.old ha4 he16 (Nat.le_refl _)).wide (Nat.le_refl _) (he16).size))) ?_
    rintro _ w22 ⟨v24, rfl, hs25, hx23⟩
    have he28 : Ext w w22 := Ext.trans he16 hx23
    have hb8 := Box.ext hb8 hx23
    have hz29 := (hx23).size
    have hbd27 := ownR.blk hs25
    refine TL.yld rfl rfl (yld_move rfl rfl) ?_
    refine TL.yld rfl rfl (yld_extract rfl rfl rfl) ?_
    refine TL.yld rfl rfl (yld_extract rfl rfl rfl) ?_
    refine TL.yld rfl rfl (yld_assign rfl rfl) ?_
    refine TL.yld rfl rfl (yld_assign rfl rfl) ?_
    refine TL.done ?_
    refine NX.seq ?_
    refine WC.seq ?_
    refine WC.seq ?_
    refine WC.region ?_
    refine TL.yld rfl rfl (yld_move rfl rfl) ?_
    refine TL.yld rfl rfl (yld_not rfl rfl) ?_
    refine TL.done ?_
    refine NX.seq ?_
    refine WC.cond rfl ?_ ?_
    · intro hc30
      replace hF := bif_t hc30 hF
      refine WC.seq ?_
      refine WC.region ?_
      refine TL.yld rfl rfl (yld_assign rfl rfl) ?_
      refine TL.yld rfl rfl (yld_assign rfl rfl) ?_
      refine TL.yld rfl rfl (yld_assign rfl rfl) ?_
      refine TL.done ?_
      refine NX.seq ?_
      refine WC.ret' ?_
      refine NX.then_r ?_
      obtain rfl := Option.some.inj hF
      exact NX.end (rs := [.tmp 2, .tmp 3, .tmp 4]) (vs := [.slice none 0 0, .slice none 0 0, .int .i64 7]) rfl ⟨rfl, rfl, rfl, trivial⟩ ⟨_, rfl, _, _, rfl, ownR.nil _ _ _ _ _, ownR.nil _ _ _ _ _, (fun g q hg hq => by first | cases hg | cases hq), he28⟩
    · intro hc31
      replace hF := bif_f hc31 hF
      refine WC.skip' ?_
      refine NX.seq ?_
      refine WC.seq ?_
      refine WC.region ?_
      refine TL.yld rfl rfl (yld_loadN (us := [v1, v3]) rfl ag_38 rfl (Box.cells hb8) cn_38) ?_
      refine TL.yld rfl rfl (yld_move rfl rfl) ?_
      obtain ⟨r32, hr33, hF⟩ := bsome hF
      refine TL.eff rfl rfl (eff_call rfl gf_78 rfl (W_impl_LatchSystem_arrivals hr33 ((slRep.old ha2 he28 (Nat.le_refl _)).wide (Nat.le_refl _) (he28).size) ((slRep.old ha4 he28 (Nat.le_refl _)).wide (Nat.le_refl _) (he28).size) (ownR.slf hs25 (Nat.zero_le _) (Nat.le_refl _)))) ?_
      rintro _ w34 ⟨v36, v40, rfl, hs37, hs41, hp44, hx35⟩
      have he45 : Ext w w34 := Ext.trans he28 hx35
      have hb8 := Box.ext hb8 hx35
      have hs25 := ownR.ext hs25 hx35
      have hz46 := (hx35).size
      have hbd39 := ownR.blk hs37
      have hbd43 := ownR.blk hs41
      refine TL.yld rfl rfl (yld_move rfl rfl) ?_
      refine TL.yld rfl rfl (yld_extract rfl rfl rfl) ?_
      refine TL.yld rfl rfl (yld_extract rfl rfl rfl) ?_
      refine TL.yld rfl rfl (yld_assign rfl rfl) ?_
      refine TL.yld rfl rfl (yld_assign rfl rfl) ?_
      refine TL.done ?_
      refine NX.seq ?_
      refine WC.seq ?_
      refine WC.seq ?_
      refine WC.region ?_
      refine TL.yld rfl rfl (yld_fieldAddr rfl fo_38_0 rfl) ?_
      refine TL.yld rfl rfl (yld_load1 0 rfl ag_35 rfl (Box.cells hb8) rfl rfl) ?_
      refine TL.yld rfl rfl (ye_len (c := C_Latch) rfl Try.underlying35 rfl (slRep.old ha2 he45 (Nat.le_refl _))) ?_
      refine TL.yld rfl rfl (yld_move rfl rfl) ?_
      refine TL.done ?_
      refine NX.seq ?_
      refine WC.block ?_
      refine WC.loop (fun m54 a wl => ∃ (i49 : Int) (l51 : List Int), Kn 48 [(5, v24), (7, v36), (8, v40), (28, v1), (29, .int .i64 ((a0_s.Latches.length : Int))), (30, .int .i64 i49)] a ∧ Ext w wl ∧ w34.heap.size ≤ wl.heap.size ∧ ownR (cInt .i64) wl (w14.heap.size) (Iv 0 0) 2 r20.1 v24 ∧ ownR (cInt .i64) wl (w22.heap.size) (Iv 0 0) 2 l51 v36 ∧ ownR cBool wl (w22.heap.size) (Iv 0 0) 4 r32.2 v40 ∧ F_impl_latchTimes_L1 a0_s r32 (fun i49 l51 => (some (r20.1, l51, 0))) m54 i49 l51 = some r) n ?_ ?_
      · intro a hK; exact ⟨0, r32.1, hK.weaken ⟨rfl, rfl, rfl, rfl, rfl, rfl, trivial⟩, he45, Nat.le_refl _, hs25, hs37, hs41, hF⟩
      · rintro m54 a w47 ⟨i49, l51, hK, he48, hz55, hs50, hs52, hs53, hF⟩
        revert hK; revert a; refine (?_ : WC _ _ _ _ _ _)
        cases m54 with
        | zero => rw [F_impl_latchTimes_L1_z] at hF; cases hF
        | succ m54 =>
          rw [F_impl_latchTimes_L1_s] at hF
          refine WC.seq ?_
          refine WC.region ?_
          refine TL.yld rfl rfl (yld_lss rfl rfl rfl) ?_
          refine TL.done ?_
          refine NX.seq ?_
          refine WC.seq ?_
          refine WC.cond rfl ?_ ?_
          · intro hc56
            replace hF := bif_t hc56 hF
            refine WC.skip' ?_
            refine NX.seq ?_
            refine WC.seq ?_
            refine WC.block ?_
            refine WC.seq ?_
            refine WC.region ?_
            refine TL.yld rfl rfl (yld_move rfl rfl) ?_
            obtain ⟨x57, hy58, hF⟩ := bsome hF
            refine TL.ye rfl rfl (ye_index (c := C_Latch) rfl Try.underlying35 cn_50 rfl rfl (slRep.old ha2 he48 (Nat.le_refl _)) hy58) ?_
            rintro _ ⟨b59, o60, us61, rfl, hib64, hr62, hcl63⟩
            have hib64 : 0 ≤ b59 ∧ b59 < w.heap.size := ⟨hib64.1, by have := hib64.2; omega⟩
            obtain rfl := C_Latch_open hr62
            refine TL.yld rfl rfl (yld_loadN (us := [.int .i64 x57.Open, .int .i64 x57.Close]) rfl ag_50 rfl hcl63 cn_50) ?_
            refine TL.eff rfl rfl (eff_alloc rfl zn_50) ?_
            rintro _ w66 ⟨b65, rfl, hn67⟩
            obtain ⟨hn67e, hn67s, hn67x, hb68⟩ := hn67
            have hb68 : Box w66 b65 [.int .i64 0, .int .i64 0] 50 := hb68
            have he70 : Ext w w66 := Ext.trans he48 hn67x
            have hs50 := ownR.ext hs50 hn67x
            have hs52 := ownR.ext hs52 hn67x
            have hs53 := ownR.ext hs53 hn67x
            have hz71 := (hn67x).size
            have hlo69 : w.heap.size ≤ b65 := by rw [hn67e]; exact (he48).size
            refine TL.yld rfl rfl (yld_assign rfl rfl) ?_
            refine TL.eff rfl rfl (eff_store rfl rfl rfl hb68 cn_50 rfl rfl) ?_
            rintro _ w72 ⟨hu73, hb74⟩
            have he75 : Ext w w72 := Below.trans he70 (Upd.below hu73 (by omega))
            have hs50 := ownR.upd hs50 hu73 (fun g hg => by have := hbd27 g hg; omega)
            have hs52 := ownR.upd hs52 hu73 (fun g hg => by have := hbd39 g hg; omega)
            have hs53 := ownR.upd hs53 hu73 (fun g hg => by have := hbd43 g hg; omega)
            have hz76 := (hu73).size
            have hb68 : Box w72 b65 [.int .i64 x57.Open, .int .i64 x57.Close] 50 := hb74
            refine TL.done ?_
            refine NX.seq ?_
            refine WC.seq ?_
            refine WC.region ?_
            refine TL.yld rfl rfl (yld_move rfl rfl) ?_
            refine TL.yld rfl rfl (yld_move rfl rfl) ?_
            obtain ⟨x77, hy78, hF⟩ := bsome hF
            refine TL.ye rfl rfl (ye_index_own (c := cBool) rfl Try.underlying95 cn_4 rfl rfl hs53 hy78) ?_
            rintro _ ⟨g79, us81, rfl, hg80, hr82, hcl83⟩
            have hr82r := hr82
            obtain rfl := hr82
            refine TL.yld rfl rfl (yld_load1 0 rfl ag_4 rfl hcl83 rfl rfl) ?_
            refine TL.yld rfl rfl (yld_not rfl rfl) ?_
            refine TL.done ?_
            refine NX.seq ?_
            refine WC.cond rfl ?_ ?_
            · intro hc84
              replace hF := bif_t hc84 hF
              refine WC.region ?_
              refine TL.yld rfl rfl (yld_move rfl rfl) ?_
              refine TL.yld rfl rfl (yld_move rfl rfl) ?_
              refine TL.yld rfl rfl (yld_fieldAddr rfl fo_50_0 rfl) ?_
              refine TL.yld rfl rfl (yld_load1 0 rfl ag_2 rfl (Box.cells hb68) rfl rfl) ?_
              obtain ⟨x85, hy86, hF⟩ := bsome hF
              refine TL.ye rfl rfl (ye_index_own (c := (cInt .i64)) rfl Try.underlying45 cn_2 rfl rfl hs52 hy86) ?_
              rintro _ ⟨g87, us89, rfl, hg88, hr90, hcl91⟩
              have hr90r := hr90
              obtain rfl := hr90
              refine TL.eff rfl rfl (eff_store_own (c := (cInt .i64)) (us' := [.int .i64 x57.Open]) (y' := x57.Open) 0 _ rfl rfl rfl hs52 hg88 hy86 rfl cn_2 rfl hr90r hcl91 rfl rfl rfl (fun k h => absurd h.2 (Nat.not_lt_zero k))) ?_
              rintro _ w92 ⟨hu93, hs94⟩
              have he95 : Ext w w92 := Below.trans he75 (Upd.below hu93 (by have := hbd39 _ hg88; omega))
              have hb68 := Box.upd hb68 hu93 (by have := hbd39 _ hg88; omega)
              have hs50 := ownR.upd hs50 hu93 (fun q hq => by have := hbd27 q hq; have := hbd39 _ hg88; omega)
              have hs53 := ownR.upd hs53 hu93 (fun q hq => by have := hp44 q _ hq hg88; omega)
              have hz96 := (hu93).size
              refine TL.done ?_
              refine NX.blk_n ?_
              refine NX.seq ?_
              refine WC.region ?_
              refine TL.yld rfl rfl (yld_add rfl rfl rfl) ?_
              refine TL.yld rfl rfl (yld_move rfl rfl) ?_
              refine TL.done ?_
              refine NX.then_n ?_
              intro a hK; exact ⟨m54, Nat.lt_succ_self m54, (IntKind.wrap IntKind.i64 (i49 + 1)), ((l51.set (i49).toNat x57.Open)), hK.weaken ⟨rfl, rfl, rfl, rfl, rfl, rfl, trivial⟩, he95, (by omega), hs50, hs94, hs53, hF⟩
            · intro hc97
              replace hF := bif_f hc97 hF
              refine WC.skip' ?_
              refine NX.blk_n ?_
              refine NX.seq ?_
              refine WC.region ?_
              refine TL.yld rfl rfl (yld_add rfl rfl rfl) ?_
              refine TL.yld rfl rfl (yld_move rfl rfl) ?_
              refine TL.done ?_
              refine NX.then_n ?_
              intro a hK; exact ⟨m54, Nat.lt_succ_self m54, (IntKind.wrap IntKind.i64 (i49 + 1)), l51, hK.weaken ⟨rfl, rfl, rfl, rfl, rfl, rfl, trivial⟩, he75, (by omega), hs50, hs52, hs53, hF⟩
          · intro hc98
            replace hF := bif_f hc98 hF
            refine WC.exit' ?_
            refine NX.then_e ?_
            refine NX.then_e ?_
            refine NX.blk_hit ?_
            refine NX.seq ?_
            refine WC.seq ?_
            refine WC.region ?_
            refine TL.yld rfl rfl (yld_move rfl rfl) ?_
            refine TL.yld rfl rfl (yld_move rfl rfl) ?_
            refine TL.yld rfl rfl (yld_assign rfl rfl) ?_
            refine TL.yld rfl rfl (yld_assign rfl rfl) ?_
            refine TL.yld rfl rfl (yld_assign rfl rfl) ?_
            refine TL.done ?_
            refine NX.seq ?_
            refine WC.ret' ?_
            obtain rfl := Option.some.inj hF
            exact NX.end (rs := [.tmp 2, .tmp 3, .tmp 4]) (vs := [v24, v36, .int .i64 0]) rfl ⟨rfl, rfl, rfl, trivial⟩ ⟨_, rfl, _, _, rfl, ownR.base hs50 (by omega), ownR.base hs52 (by omega), (fun g q hg hq => by have := hbd39 g hg; have := hbd27 q hq; omega), he48⟩

-- loop.example/g00861/impl.LatchDepartures
def F_impl_LatchDepartures (n : Nat) (a0_s : S_LatchSystem) : Option ((List Int) × Int) := (Option.bind (F_impl_latchTimes n a0_s) fun r12 => (some (r12.1, r12.2.2)))
set_option maxHeartbeats 4000000 in
theorem W_impl_LatchDepartures {n : Nat} {a0_s : S_LatchSystem} {r : (List Int) × Int} {w : World} {v1 : Value} {v3 : Value} (hF : F_impl_LatchDepartures n a0_s = some r) (ha2 : slRep C_Latch w (Iv 0 w.heap.size) a0_s.Latches v1) (ha4 : slRep C_LatchLink w (Iv 0 w.heap.size) a0_s.Links v3) :
    Calls Try.prog 30 [.agg #[v1, v3]].toArray w (Ret fun u w2 => ∃ v0_0, u = .tuple #[v0_0, .int .i64 r.2] ∧ ownR (cInt .i64) w2 w.heap.size (Iv 0 0) 2 r.1 v0_0 ∧ Ext w w2) := by
  refine calls_of Try.func30 rfl Try.ntmps30 ?_
  have he0 : Ext w w := Ext.refl w
  unfold F_impl_LatchDepartures at hF
  refine WC.seq ?_
  refine WC.region ?_
  refine TL.eff rfl rfl (eff_box rfl rfl) ?_
  rintro _ w6 ⟨b5, rfl, hn7⟩
  obtain ⟨hn7e, hn7s, hn7x, hb8⟩ := hn7
  have hb8 : Box w6 b5 [v1, v3] 38 := hb8
  have he10 : Ext w w6 := Ext.trans he0 hn7x
  have hz11 := (hn7x).size
  have hlo9 : w.heap.size ≤ b5 := by rw [hn7e]; exact (he0).size
  refine TL.yld rfl rfl (yld_assign rfl rfl) ?_
  refine TL.yld rfl rfl (yld_assign rfl rfl) ?_
  refine TL.done ?_
  refine NX.seq ?_
  refine WC.seq ?_
  refine WC.region ?_
  refine TL.yld rfl rfl (yld_loadN (us := [v1, v3]) rfl ag_38 rfl (Box.cells hb8) cn_38) ?_
  obtain ⟨r12, hr13, hF⟩ := bsome hF
  refine TL.eff rfl rfl (eff_call rfl gf_66 rfl (W_impl_latchTimes hr13 ((slRep.old ha2 he10 (Nat.le_refl _)).wide (Nat.le_refl _) (he10).size) ((slRep.old ha4 he10 (Nat.le_refl _)).wide (Nat.le_refl _) (he10).size))) ?_
  rintro _ w14 ⟨v16, v20, rfl, hs17, hs21, hp24, hx15⟩
  have he25 : Ext w w14 := Ext.trans he10 hx15
  have hb8 := Box.ext hb8 hx15
  have hz26 := (hx15).size
  have hbd19 := ownR.blk hs17
  have hbd23 := ownR.blk hs21
  refine TL.yld rfl rfl (yld_move rfl rfl) ?_
  refine TL.yld rfl rfl (yld_extract rfl rfl rfl) ?_
  refine TL.yld rfl rfl (yld_extract rfl rfl rfl) ?_
  refine TL.yld rfl rfl (yld_extract rfl rfl rfl) ?_
  refine TL.yld rfl rfl (yld_assign rfl rfl) ?_
  refine TL.yld rfl rfl (yld_assign rfl rfl) ?_
  refine TL.yld rfl rfl (yld_assign rfl rfl) ?_
  refine TL.done ?_
  refine NX.seq ?_
  refine WC.seq ?_
  refine WC.region ?_
  refine TL.yld rfl rfl (yld_move rfl rfl) ?_
  refine TL.yld rfl rfl (yld_move rfl rfl) ?_
  refine TL.yld rfl rfl (yld_assign rfl rfl) ?_
  refine TL.yld rfl rfl (yld_assign rfl rfl) ?_
  refine TL.done ?_
  refine NX.seq ?_
  refine WC.ret' ?_
  obtain rfl := Option.some.inj hF
  exact NX.end (rs := [.tmp 2, .tmp 3]) (vs := [v16, .int .i64 r12.2.2]) rfl ⟨rfl, rfl, trivial⟩ ⟨_, rfl, _, rfl, ownR.base hs17 (by omega), he25⟩

-- loop.example/g00861/laws.eqInt64S
def F_laws_eqInt64S_L1 (a0_a : List Int) (a1_b : List Int) (k0 : Int → Option Bool) : Nat → Int → Option Bool
  | 0 => fun _ => none
  | m + 1 => fun i9 => (bif decide (i9 < (a0_a.length : Int)) then (Option.bind (getI a0_a i9) fun x11 => (Option.bind (getI a1_b i9) fun x19 => (bif (x11 != x19) then (some false) else (F_laws_eqInt64S_L1 a0_a a1_b k0 m (IntKind.wrap IntKind.i64 (i9 + 1)))))) else (k0 i9))
theorem F_laws_eqInt64S_L1_z (a0_a : List Int) (a1_b : List Int) (k0 : Int → Option Bool) (i9 : Int) : F_laws_eqInt64S_L1 a0_a a1_b k0 0 i9 = none := rfl
theorem F_laws_eqInt64S_L1_s (m : Nat) (a0_a : List Int) (a1_b : List Int) (k0 : Int → Option Bool) (i9 : Int) : F_laws_eqInt64S_L1 a0_a a1_b k0 (m + 1) i9 = (bif decide (i9 < (a0_a.length : Int)) then (Option.bind (getI a0_a i9) fun x11 => (Option.bind (getI a1_b i9) fun x19 => (bif (x11 != x19) then (some false) else (F_laws_eqInt64S_L1 a0_a a1_b k0 m (IntKind.wrap IntKind.i64 (i9 + 1)))))) else (k0 i9)) := rfl

def F_laws_eqInt64S (n : Nat) (a0_a : List Int) (a1_b : List Int) : Option Bool := (bif (((a0_a.length : Int)) != ((a1_b.length : Int))) then (some false) else (F_laws_eqInt64S_L1 a0_a a1_b (fun i9 => (some true)) n 0))
set_option maxHeartbeats 4000000 in
theorem W_laws_eqInt64S {n : Nat} {a0_a : List Int} {a1_b : List Int} {r : Bool} {w : World} {v1 : Value} {v3 : Value} (hF : F_laws_eqInt64S n a0_a a1_b = some r) (ha2 : slRep (cInt .i64) w (Iv 0 w.heap.size) a0_a v1) (ha4 : slRep (cInt .i64) w (Iv 0 w.heap.size) a1_b v3) :
    Calls Try.prog 36 [v1, v3].toArray w (Ret fun u w2 => u = .bool r ∧ Ext w w2) := by
  refine calls_of Try.func36 rfl Try.ntmps36 ?_
  have he0 : Ext w w := Ext.refl w
  unfold F_laws_eqInt64S at hF
  refine WC.seq ?_
  refine WC.region ?_
  refine TL.yld rfl rfl (yld_assign rfl rfl) ?_
  refine TL.done ?_
  refine NX.seq ?_
  refine WC.seq ?_
  refine WC.seq ?_
  refine WC.region ?_
  refine TL.yld rfl rfl (yld_move rfl rfl) ?_
  refine TL.yld rfl rfl (ye_len (c := (cInt .i64)) rfl Try.underlying45 rfl (slRep.old ha2 he0 (Nat.le_refl _))) ?_
  refine TL.yld rfl rfl (yld_move rfl rfl) ?_
  refine TL.yld rfl rfl (ye_len (c := (cInt .i64)) rfl Try.underlying45 rfl (slRep.old ha4 he0 (Nat.le_refl _))) ?_
  refine TL.yld rfl rfl (yld_neq rfl rfl rfl) ?_
  refine TL.done ?_
  refine NX.seq ?_
  refine WC.cond rfl ?_ ?_
  · intro hc5
    replace hF := bif_t hc5 hF
    refine WC.seq ?_
    refine WC.region ?_
    refine TL.yld rfl rfl (yld_assign rfl rfl) ?_
    refine TL.done ?_
    refine NX.seq ?_
    refine WC.ret' ?_
    refine NX.then_r ?_
    obtain rfl := Option.some.inj hF
    exact NX.end (rs := [.tmp 4]) (vs := [.bool false]) rfl ⟨rfl, trivial⟩ ⟨_, rfl, rfl, he0⟩
  · intro hc6
    replace hF := bif_f hc6 hF
    refine WC.skip' ?_
    refine NX.seq ?_
    refine WC.seq ?_
    refine WC.seq ?_
    refine WC.region ?_
    refine TL.yld rfl rfl (yld_assign rfl rfl) ?_
    refine TL.done ?_
    refine NX.seq ?_
    refine WC.block ?_
    refine WC.loop (fun m10 a wl => ∃ (i9 : Int), Kn 26 [(0, v1), (1, v3), (5, .int .i64 i9)] a ∧ Ext w wl ∧ w.heap.size ≤ wl.heap.size ∧ F_laws_eqInt64S_L1 a0_a a1_b (fun i9 => (some true)) m10 i9 = some r) n ?_ ?_
    · intro a hK; exact ⟨0, hK.weaken ⟨rfl, rfl, rfl, trivial⟩, he0, Nat.le_refl _, hF⟩
    · rintro m10 a w7 ⟨i9, hK, he8, hz11, hF⟩
      revert hK; revert a; refine (?_ : WC _ _ _ _ _ _)
      cases m10 with
      | zero => rw [F_laws_eqInt64S_L1_z] at hF; cases hF
      | succ m10 =>
        rw [F_laws_eqInt64S_L1_s] at hF
        refine WC.seq ?_
        refine WC.seq ?_
        refine WC.region ?_
        refine TL.yld rfl rfl (yld_move rfl rfl) ?_
        refine TL.yld rfl rfl (yld_move rfl rfl) ?_
        refine TL.yld rfl rfl (ye_len (c := (cInt .i64)) rfl Try.underlying45 rfl (slRep.old ha2 he8 (Nat.le_refl _))) ?_
        refine TL.yld rfl rfl (yld_lss rfl rfl rfl) ?_
        refine TL.done ?_
        refine NX.seq ?_
        refine WC.cond rfl ?_ ?_
        · intro hc12
          replace hF := bif_t hc12 hF
          refine WC.skip' ?_
          refine NX.seq ?_
          refine WC.seq ?_
          refine WC.block ?_
          refine WC.seq ?_
          refine WC.quiet Try.hm (by kernel_rfl) ?_
          refine QL.yld rfl rfl (Yld.qui (yld_move rfl rfl)) ?_
          refine QL.yld rfl rfl (Yld.qui (yld_move rfl rfl)) ?_
          obtain ⟨x13, hy14, hF⟩ := bsome hF
          refine QL.ye rfl rfl (ye_index (c := (cInt .i64)) rfl Try.underlying45 cn_2 rfl rfl (slRep.old ha2 he8 (Nat.le_refl _)) hy14) ?_
          rintro _ ⟨b15, o16, us17, rfl, hib20, hr18, hcl19⟩
          have hib20 : 0 ≤ b15 ∧ b15 < w.heap.size := ⟨hib20.1, by have := hib20.2; omega⟩
          obtain rfl := hr18
          refine QL.yld rfl rfl (Yld.qui (yld_load1 0 rfl ag_2 rfl hcl19 rfl rfl)) ?_
          refine QL.yld rfl rfl (Yld.qui (yld_move rfl rfl)) ?_
          refine QL.yld rfl rfl (Yld.qui (yld_move rfl rfl)) ?_
          obtain ⟨x21, hy22, hF⟩ := bsome hF
          refine QL.ye rfl rfl (ye_index (c := (cInt .i64)) rfl Try.underlying45 cn_2 rfl rfl (slRep.old ha4 he8 (Nat.le_refl _)) hy22) ?_
          rintro _ ⟨b23, o24, us25, rfl, hib28, hr26, hcl27⟩
          have hib28 : 0 ≤ b23 ∧ b23 < w.heap.size := ⟨hib28.1, by have := hib28.2; omega⟩
          obtain rfl := hr26
          refine QL.yld rfl rfl (Yld.qui (yld_load1 0 rfl ag_2 rfl hcl27 rfl rfl)) ?_
          refine QL.yld rfl rfl (Yld.qui (yld_neq rfl rfl rfl)) ?_
          refine QL.done fun w29 hx30 => ?_
          have he31 : Ext w w29 := Ext.trans he8 hx30
          have hz32 := (hx30).size
          refine NX.seq ?_
          refine WC.cond rfl ?_ ?_
          · intro hc33
            replace hF := bif_t hc33 hF
            refine WC.seq ?_
            refine WC.region ?_
            refine TL.yld rfl rfl (yld_assign rfl rfl) ?_
            refine TL.done ?_
            refine NX.seq ?_
            refine WC.ret' ?_
            refine NX.blk_r ?_
            refine NX.then_r ?_
            refine NX.then_r ?_
            refine NX.blk_r ?_
            refine NX.then_r ?_
            obtain rfl := Option.some.inj hF
            exact NX.end (rs := [.tmp 4]) (vs := [.bool false]) rfl ⟨rfl, trivial⟩ ⟨_, rfl, rfl, he31⟩
          · intro hc34
            replace hF := bif_f hc34 hF
            refine WC.skip' ?_
            refine NX.blk_n ?_
            refine NX.seq ?_
            refine WC.region ?_
            refine TL.yld rfl rfl (yld_move rfl rfl) ?_
            refine TL.yld rfl rfl (yld_add rfl rfl rfl) ?_
            refine TL.yld rfl rfl (yld_assign rfl rfl) ?_
            refine TL.done ?_
            refine NX.then_n ?_
            intro a hK; exact ⟨m10, Nat.lt_succ_self m10, (IntKind.wrap IntKind.i64 (i9 + 1)), hK.weaken ⟨rfl, rfl, rfl, trivial⟩, he31, (by omega), hF⟩
        · intro hc35
          replace hF := bif_f hc35 hF
          refine WC.exit' ?_
          refine NX.then_e ?_
          refine NX.then_e ?_
          refine NX.blk_hit ?_
          refine NX.seq ?_
          refine WC.seq ?_
          refine WC.region ?_
          refine TL.yld rfl rfl (yld_assign rfl rfl) ?_
          refine TL.done ?_
          refine NX.seq ?_
          refine WC.ret' ?_
          obtain rfl := Option.some.inj hF
          exact NX.end (rs := [.tmp 4]) (vs := [.bool true]) rfl ⟨rfl, trivial⟩ ⟨_, rfl, rfl, he8⟩

-- loop.example/g00861/spec.l01In
def F_spec_l01In (n : Nat) (a0_n : Int) (a1_low : Int) (a2_high : Int) : Option Bool := (some (((decide (a0_n ≥ a1_low)) && (decide (a0_n ≤ a2_high)))))
set_option maxHeartbeats 4000000 in
theorem W_spec_l01In {n : Nat} {a0_n : Int} {a1_low : Int} {a2_high : Int} {r : Bool} {w : World} (hF : F_spec_l01In n a0_n a1_low a2_high = some r) :
    Calls Try.prog 57 [.int .i64 a0_n, .int .i64 a1_low, .int .i64 a2_high].toArray w (Ret fun u w2 => u = .bool r ∧ Ext w w2) := by
  refine calls_of Try.func57 rfl Try.ntmps57 ?_
  have he0 : Ext w w := Ext.refl w
  unfold F_spec_l01In at hF
  refine WC.seq ?_
  refine WC.region ?_
  refine TL.yld rfl rfl (yld_assign rfl rfl) ?_
  refine TL.done ?_
  refine NX.seq ?_
  refine WC.seq ?_
  refine WC.region ?_
  refine TL.yld rfl rfl (yld_move rfl rfl) ?_
  refine TL.yld rfl rfl (yld_move rfl rfl) ?_
  refine TL.yld rfl rfl (yld_geq rfl rfl rfl) ?_
  refine TL.yld rfl rfl (yld_move rfl rfl) ?_
  refine TL.cut 4 [(14, .bool (((decide (a0_n ≥ a1_low)) && (decide (a0_n ≤ a2_high)))))] (fun w' => Ext w w') ?_ ?_
  · rcases Bool.eq_false_or_eq_true (decide (a0_n ≥ a1_low)) with hg1 | hg1
    ·
      refine TL.gy (j := 3) (t := 10) rfl rfl rfl hg1 rfl (yld_move rfl rfl) ?_
      refine TL.gy (j := 3) (t := 10) rfl rfl rfl hg1 rfl (yld_move rfl rfl) ?_
      refine TL.gy (j := 3) (t := 10) rfl rfl rfl hg1 rfl (yld_leq rfl rfl rfl) ?_
      refine TL.yld rfl rfl (yld_and_t rfl rfl hg1 rfl) ?_
      exact TL.nil fun a h => ⟨h.weaken ⟨rfl, trivial⟩, Ext.refl _⟩
    ·
      refine TL.gnu (j := 3) (t := 10) rfl rfl rfl hg1 rfl ?_
      refine TL.gnu (j := 3) (t := 10) rfl rfl rfl hg1 rfl ?_
      refine TL.gnu (j := 3) (t := 10) rfl rfl rfl hg1 rfl ?_
      refine TL.yld rfl rfl (yld_and_f (b2 := decide (a0_n ≤ a2_high)) rfl rfl hg1 rfl) ?_
      exact TL.nil fun a h => ⟨h.weaken ⟨rfl, trivial⟩, Ext.refl _⟩
  intro w2 hx3
  have he4 : Ext w w2 := Ext.trans he0 hx3
  have hz5 := (hx3).size
  refine TL.yld rfl rfl (yld_assign rfl rfl) ?_
  refine TL.done ?_
  refine NX.seq ?_
  refine WC.ret' ?_
  obtain rfl := Option.some.inj hF
  exact NX.end (rs := [.tmp 6]) (vs := [.bool (((decide (a0_n ≥ a1_low)) && (decide (a0_n ≤ a2_high))))]) rfl ⟨rfl, trivial⟩ ⟨_, rfl, rfl, he4⟩

-- loop.example/g00861/spec.IsLatchSystem
def F_spec_IsLatchSystem_L2 (n : Nat) (a0_s : S_LatchSystem) (k2 : Int → Option Bool) : Nat → Int → Option Bool
  | 0 => fun _ => none
  | m + 1 => fun i18 => (bif decide (i18 < (a0_s.Links.length : Int)) then (Option.bind (getI a0_s.Links i18) fun x21 => (Option.bind (F_spec_l01In n x21.From 0 (IntKind.wrap IntKind.i64 (((a0_s.Latches.length : Int)) - 1))) fun r41 => (Option.bind (bif (!r41) then (some true) else (Option.bind (F_spec_l01In n x21.To 0 (IntKind.wrap IntKind.i64 (((a0_s.Latches.length : Int)) - 1))) fun r47 => (some (!r47)))) fun c47 => (Option.bind (bif c47 then (some true) else (Option.bind (F_spec_l01In n x21.Delay 0 100000) fun r60 => (some (!r60)))) fun c60 => (Option.bind (bif c60 then (some true) else (Option.bind (F_spec_l01In n x21.Shift 0 100000) fun r73 => (some (!r73)))) fun c73 => (bif c73 then (some false) else (F_spec_IsLatchSystem_L2 n a0_s k2 m (IntKind.wrap IntKind.i64 (i18 + 1))))))))) else (k2 i18))
theorem F_spec_IsLatchSystem_L2_z (n : Nat) (a0_s : S_LatchSystem) (k2 : Int → Option Bool) (i18 : Int) : F_spec_IsLatchSystem_L2 n a0_s k2 0 i18 = none := rfl
theorem F_spec_IsLatchSystem_L2_s (m : Nat) (n : Nat) (a0_s : S_LatchSystem) (k2 : Int → Option Bool) (i18 : Int) : F_spec_IsLatchSystem_L2 n a0_s k2 (m + 1) i18 = (bif decide (i18 < (a0_s.Links.length : Int)) then (Option.bind (getI a0_s.Links i18) fun x21 => (Option.bind (F_spec_l01In n x21.From 0 (IntKind.wrap IntKind.i64 (((a0_s.Latches.length : Int)) - 1))) fun r41 => (Option.bind (bif (!r41) then (some true) else (Option.bind (F_spec_l01In n x21.To 0 (IntKind.wrap IntKind.i64 (((a0_s.Latches.length : Int)) - 1))) fun r47 => (some (!r47)))) fun c47 => (Option.bind (bif c47 then (some true) else (Option.bind (F_spec_l01In n x21.Delay 0 100000) fun r60 => (some (!r60)))) fun c60 => (Option.bind (bif c60 then (some true) else (Option.bind (F_spec_l01In n x21.Shift 0 100000) fun r73 => (some (!r73)))) fun c73 => (bif c73 then (some false) else (F_spec_IsLatchSystem_L2 n a0_s k2 m (IntKind.wrap IntKind.i64 (i18 + 1))))))))) else (k2 i18)) := rfl

def F_spec_IsLatchSystem_L1 (n : Nat) (a0_s : S_LatchSystem) (k0 : Int → Option Bool) : Nat → Int → Option Bool
  | 0 => fun _ => none
  | m + 1 => fun i14 => (bif decide (i14 < (a0_s.Latches.length : Int)) then (Option.bind (getI a0_s.Latches i14) fun x17 => (Option.bind (F_spec_l01In n x17.Open 0 100000) fun r37 => (Option.bind (bif (!r37) then (some true) else (Option.bind (F_spec_l01In n x17.Close x17.Open 100000) fun r43 => (some (!r43)))) fun c43 => (bif c43 then (some false) else (F_spec_IsLatchSystem_L1 n a0_s k0 m (IntKind.wrap IntKind.i64 (i14 + 1))))))) else (k0 i14))
theorem F_spec_IsLatchSystem_L1_z (n : Nat) (a0_s : S_LatchSystem) (k0 : Int → Option Bool) (i14 : Int) : F_spec_IsLatchSystem_L1 n a0_s k0 0 i14 = none := rfl
theorem F_spec_IsLatchSystem_L1_s (m : Nat) (n : Nat) (a0_s : S_LatchSystem) (k0 : Int → Option Bool) (i14 : Int) : F_spec_IsLatchSystem_L1 n a0_s k0 (m + 1) i14 = (bif decide (i14 < (a0_s.Latches.length : Int)) then (Option.bind (getI a0_s.Latches i14) fun x17 => (Option.bind (F_spec_l01In n x17.Open 0 100000) fun r37 => (Option.bind (bif (!r37) then (some true) else (Option.bind (F_spec_l01In n x17.Close x17.Open 100000) fun r43 => (some (!r43)))) fun c43 => (bif c43 then (some false) else (F_spec_IsLatchSystem_L1 n a0_s k0 m (IntKind.wrap IntKind.i64 (i14 + 1))))))) else (k0 i14)) := rfl

def F_spec_IsLatchSystem (n : Nat) (a0_s : S_LatchSystem) : Option Bool := (F_spec_IsLatchSystem_L1 n a0_s (fun i14 => (F_spec_IsLatchSystem_L2 n a0_s (fun i18 => (some (((decide ((a0_s.Latches.length : Int) ≤ 12)) && (decide ((a0_s.Links.length : Int) ≤ 60)))))) n 0)) n 0)
set_option maxHeartbeats 4000000 in
theorem W_spec_IsLatchSystem {n : Nat} {a0_s : S_LatchSystem} {r : Bool} {w : World} {v1 : Value} {v3 : Value} (hF : F_spec_IsLatchSystem n a0_s = some r) (ha2 : slRep C_Latch w (Iv 0 w.heap.size) a0_s.Latches v1) (ha4 : slRep C_LatchLink w (Iv 0 w.heap.size) a0_s.Links v3) :
    Calls Try.prog 19 [.agg #[v1, v3]].toArray w (Ret fun u w2 => u = .bool r ∧ Ext w w2) := by
  refine calls_of Try.func19 rfl Try.ntmps19 ?_
  have he0 : Ext w w := Ext.refl w
  unfold F_spec_IsLatchSystem at hF
  refine WC.seq ?_
  refine WC.region ?_
  refine TL.eff rfl rfl (eff_box rfl rfl) ?_
  rintro _ w6 ⟨b5, rfl, hn7⟩
  obtain ⟨hn7e, hn7s, hn7x, hb8⟩ := hn7
  have hb8 : Box w6 b5 [v1, v3] 38 := hb8
  have he10 : Ext w w6 := Ext.trans he0 hn7x
  have hz11 := (hn7x).size
  have hlo9 : w.heap.size ≤ b5 := by rw [hn7e]; exact (he0).size
  refine TL.yld rfl rfl (yld_assign rfl rfl) ?_
  refine TL.done ?_
  refine NX.seq ?_
  refine WC.seq ?_
  refine WC.region ?_
  refine TL.yld rfl rfl (yld_fieldAddr rfl fo_38_0 rfl) ?_
  refine TL.yld rfl rfl (yld_load1 0 rfl ag_35 rfl (Box.cells hb8) rfl rfl) ?_
  refine TL.yld rfl rfl (ye_len (c := C_Latch) rfl Try.underlying35 rfl (slRep.old ha2 he10 (Nat.le_refl _))) ?_
  refine TL.yld rfl rfl (yld_assign rfl rfl) ?_
  refine TL.done ?_
  refine NX.seq ?_
  refine WC.seq ?_
  refine WC.seq ?_
  refine WC.region ?_
  refine TL.yld rfl rfl (yld_assign rfl rfl) ?_
  refine TL.done ?_
  refine NX.seq ?_
  refine WC.block ?_
  refine WC.loop (fun m16 a wl => ∃ (i14 : Int), Kn 83 [(1, .pointer (some ⟨b5, 0, none⟩)), (3, .int .i64 ((a0_s.Latches.length : Int))), (4, .int .i64 i14)] a ∧ Ext w wl ∧ w6.heap.size ≤ wl.heap.size ∧ Box wl b5 [v1, v3] 38 ∧ F_spec_IsLatchSystem_L1 n a0_s (fun i14 => (F_spec_IsLatchSystem_L2 n a0_s (fun i18 => (some (((decide ((a0_s.Latches.length : Int) ≤ 12)) && (decide ((a0_s.Links.length : Int) ≤ 60)))))) n 0)) m16 i14 = some r) n ?_ ?_
  · intro a hK; exact ⟨0, hK.weaken ⟨rfl, rfl, rfl, trivial⟩, he10, Nat.le_refl _, hb8, hF⟩
  · rintro m16 a w12 ⟨i14, hK, he13, hz17, hb15, hF⟩
    revert hK; revert a; refine (?_ : WC _ _ _ _ _ _)
    cases m16 with
    | zero => rw [F_spec_IsLatchSystem_L1_z] at hF; cases hF
    | succ m16 =>
      rw [F_spec_IsLatchSystem_L1_s] at hF
      refine WC.seq ?_
      refine WC.seq ?_
      refine WC.region ?_
      refine TL.yld rfl rfl (yld_move rfl rfl) ?_
      refine TL.yld rfl rfl (yld_fieldAddr rfl fo_38_0 rfl) ?_
      refine TL.yld rfl rfl (yld_load1 0 rfl ag_35 rfl (Box.cells hb15) rfl rfl) ?_
      refine TL.yld rfl rfl (ye_len (c := C_Latch) rfl Try.underlying35 rfl (slRep.old ha2 he13 (Nat.le_refl _))) ?_
      refine TL.yld rfl rfl (yld_lss rfl rfl rfl) ?_
      refine TL.done ?_
      refine NX.seq ?_
      refine WC.cond rfl ?_ ?_
      · intro hc18
        replace hF := bif_t hc18 hF
        refine WC.skip' ?_
        refine NX.seq ?_
        refine WC.seq ?_
        refine WC.block ?_
        refine WC.seq ?_
        refine WC.region ?_
        refine TL.yld rfl rfl (yld_fieldAddr rfl fo_38_0 rfl) ?_
        refine TL.yld rfl rfl (yld_load1 0 rfl ag_35 rfl (Box.cells hb15) rfl rfl) ?_
        refine TL.yld rfl rfl (yld_move rfl rfl) ?_
        obtain ⟨x19, hy20, hF⟩ := bsome hF
        refine TL.ye rfl rfl (ye_index (c := C_Latch) rfl Try.underlying35 cn_50 rfl rfl (slRep.old ha2 he13 (Nat.le_refl _)) hy20) ?_
        rintro _ ⟨b21, o22, us23, rfl, hib26, hr24, hcl25⟩
        have hib26 : 0 ≤ b21 ∧ b21 < w.heap.size := ⟨hib26.1, by have := hib26.2; omega⟩
        obtain rfl := C_Latch_open hr24
        refine TL.yld rfl rfl (yld_loadN (us := [.int .i64 x19.Open, .int .i64 x19.Close]) rfl ag_50 rfl hcl25 cn_50) ?_
        refine TL.eff rfl rfl (eff_alloc rfl zn_50) ?_
        rintro _ w28 ⟨b27, rfl, hn29⟩
        obtain ⟨hn29e, hn29s, hn29x, hb30⟩ := hn29
        have hb30 : Box w28 b27 [.int .i64 0, .int .i64 0] 50 := hb30
        have he32 : Ext w w28 := Ext.trans he13 hn29x
        have hb15 := Box.ext hb15 hn29x
        have hz33 := (hn29x).size
        have hlo31 : w.heap.size ≤ b27 := by rw [hn29e]; exact (he13).size
        refine TL.eff rfl rfl (eff_store rfl rfl rfl hb30 cn_50 rfl rfl) ?_
        rintro _ w34 ⟨hu35, hb36⟩
        have he37 : Ext w w34 := Below.trans he32 (Upd.below hu35 (by omega))
        have hb15 := Box.upd hb15 hu35 (by omega)
        have hz38 := (hu35).size
        have hb30 : Box w34 b27 [.int .i64 x19.Open, .int .i64 x19.Close] 50 := hb36
        refine TL.done ?_
        refine NX.seq ?_
        refine WC.seq ?_
        refine WC.region ?_
        refine TL.yld rfl rfl (yld_fieldAddr rfl fo_50_0 rfl) ?_
        refine TL.yld rfl rfl (yld_load1 0 rfl ag_2 rfl (Box.cells hb30) rfl rfl) ?_
        obtain ⟨r39, hr40, hF⟩ := bsome hF
        refine TL.eff rfl rfl (eff_call rfl gf_57 rfl (W_spec_l01In hr40)) ?_
        rintro _ w41 ⟨rfl, hx42⟩
        have he43 : Ext w w41 := Ext.trans he37 hx42
        have hb15 := Box.ext hb15 hx42
        have hb30 := Box.ext hb30 hx42
        have hz44 := (hx42).size
        refine TL.yld rfl rfl (yld_not rfl rfl) ?_
        refine TL.yld rfl rfl (yld_move rfl rfl) ?_
        obtain ⟨c45, hb46, hF⟩ := bsome hF
        refine TL.cut 7 [(1, .pointer (some ⟨b5, 0, none⟩)), (3, .int .i64 ((a0_s.Latches.length : Int))), (4, .int .i64 i14), (34, .bool c45)] (fun w' => Ext w41 w') ?_ ?_
        · rcases Bool.eq_false_or_eq_true (!r39) with hg47 | hg47
          ·
            rw [hg47] at hb46; simp only [cond_true, cond_false] at hb46
            refine TL.gnu (j := 4) (t := 27) rfl rfl rfl hg47 rfl ?_
            refine TL.gnu (j := 4) (t := 27) rfl rfl rfl hg47 rfl ?_
            refine TL.gnu (j := 4) (t := 27) rfl rfl rfl hg47 rfl ?_
            refine TL.gnu (j := 4) (t := 27) rfl rfl rfl hg47 rfl ?_
            refine TL.gnu (j := 4) (t := 27) rfl rfl rfl hg47 rfl ?_
            refine TL.gnu (j := 4) (t := 27) rfl rfl rfl hg47 rfl ?_
            obtain rfl := Option.some.inj hb46
            refine TL.yld rfl rfl (yld_pick_t rfl rfl hg47 rfl) ?_
            exact TL.nil fun a h => ⟨h.weaken ⟨rfl, rfl, rfl, rfl, trivial⟩, Ext.refl _⟩
          ·
            rw [hg47] at hb46; simp only [cond_true, cond_false] at hb46
            replace hF := hb46
            refine TL.gy (j := 4) (t := 27) rfl rfl rfl hg47 rfl (yld_fieldAddr rfl fo_50_1 rfl) ?_
            refine TL.gy (j := 4) (t := 27) rfl rfl rfl hg47 rfl (yld_load1 1 rfl ag_2 rfl (Box.cells hb30) rfl rfl) ?_
            refine TL.gy (j := 4) (t := 27) rfl rfl rfl hg47 rfl (yld_fieldAddr rfl fo_50_0 rfl) ?_
            refine TL.gy (j := 4) (t := 27) rfl rfl rfl hg47 rfl (yld_load1 0 rfl ag_2 rfl (Box.cells hb30) rfl rfl) ?_
            obtain ⟨r48, hr49, hF⟩ := bsome hF
            refine TL.ge (j := 4) (t := 27) rfl rfl rfl hg47 rfl (eff_call rfl gf_57 rfl (W_spec_l01In hr49)) ?_
            rintro _ w50 ⟨rfl, hx51⟩
            have he52 : Ext w w50 := Ext.trans he43 hx51
            have hb15 := Box.ext hb15 hx51
            have hb30 := Box.ext hb30 hx51
            have hz53 := (hx51).size
            refine TL.gy (j := 4) (t := 27) rfl rfl rfl hg47 rfl (yld_not rfl rfl) ?_
            obtain rfl := Option.some.inj hF
            refine TL.yld rfl rfl (yld_pick_f rfl rfl hg47 rfl) ?_
            exact TL.nil fun a h => ⟨h.weaken ⟨rfl, rfl, rfl, rfl, trivial⟩, hx51⟩
        intro w54 hx55
        have he56 : Ext w w54 := Ext.trans he43 hx55
        have hb15 := Box.ext hb15 hx55
        have hb30 := Box.ext hb30 hx55
        have hz57 := (hx55).size
        refine TL.done ?_
        refine NX.seq ?_
        refine WC.cond rfl ?_ ?_
        · intro hc58
          replace hF := bif_t hc58 hF
          refine WC.seq ?_
          refine WC.region ?_
          refine TL.yld rfl rfl (yld_assign rfl rfl) ?_
          refine TL.done ?_
          refine NX.seq ?_
          refine WC.ret' ?_
          refine NX.blk_r ?_
          refine NX.then_r ?_
          refine NX.then_r ?_
          refine NX.blk_r ?_
          refine NX.then_r ?_
          obtain rfl := Option.some.inj hF
          exact NX.end (rs := [.tmp 2]) (vs := [.bool false]) rfl ⟨rfl, trivial⟩ ⟨_, rfl, rfl, he56⟩
        · intro hc59
          replace hF := bif_f hc59 hF
          refine WC.skip' ?_
          refine NX.blk_n ?_
          refine NX.seq ?_
          refine WC.region ?_
          refine TL.yld rfl rfl (yld_move rfl rfl) ?_
          refine TL.yld rfl rfl (yld_add rfl rfl rfl) ?_
          refine TL.yld rfl rfl (yld_assign rfl rfl) ?_
          refine TL.done ?_
          refine NX.then_n ?_
          intro a hK; exact ⟨m16, Nat.lt_succ_self m16, (IntKind.wrap IntKind.i64 (i14 + 1)), hK.weaken ⟨rfl, rfl, rfl, trivial⟩, he56, (by omega), hb15, hF⟩
      · intro hc60
        replace hF := bif_f hc60 hF
        refine WC.exit' ?_
        refine NX.then_e ?_
        refine NX.then_e ?_
        refine NX.blk_hit ?_
        refine NX.seq ?_
        refine WC.seq ?_
        refine WC.seq ?_
        refine WC.region ?_
        refine TL.yld rfl rfl (yld_assign rfl rfl) ?_
        refine TL.done ?_
        refine NX.seq ?_
        refine WC.block ?_
        refine WC.loop (fun m65 a wl => ∃ (i63 : Int), Kn 83 [(1, .pointer (some ⟨b5, 0, none⟩)), (3, .int .i64 ((a0_s.Latches.length : Int))), (6, .int .i64 i63)] a ∧ Ext w wl ∧ w12.heap.size ≤ wl.heap.size ∧ Box wl b5 [v1, v3] 38 ∧ F_spec_IsLatchSystem_L2 n a0_s (fun i63 => (some (((decide ((a0_s.Latches.length : Int) ≤ 12)) && (decide ((a0_s.Links.length : Int) ≤ 60)))))) m65 i63 = some r) n ?_ ?_
        · intro a hK; exact ⟨0, hK.weaken ⟨rfl, rfl, rfl, trivial⟩, he13, Nat.le_refl _, hb15, hF⟩
        · rintro m65 a w61 ⟨i63, hK, he62, hz66, hb64, hF⟩
          revert hK; revert a; refine (?_ : WC _ _ _ _ _ _)
          cases m65 with
          | zero => rw [F_spec_IsLatchSystem_L2_z] at hF; cases hF
          | succ m65 =>
            rw [F_spec_IsLatchSystem_L2_s] at hF
            refine WC.seq ?_
            refine WC.seq ?_
            refine WC.region ?_
            refine TL.yld rfl rfl (yld_move rfl rfl) ?_
            refine TL.yld rfl rfl (yld_fieldAddr rfl fo_38_1 rfl) ?_
            refine TL.yld rfl rfl (yld_load1 1 rfl ag_36 rfl (Box.cells hb64) rfl rfl) ?_
            refine TL.yld rfl rfl (ye_len (c := C_LatchLink) rfl Try.underlying36 rfl (slRep.old ha4 he62 (Nat.le_refl _))) ?_
            refine TL.yld rfl rfl (yld_lss rfl rfl rfl) ?_
            refine TL.done ?_
            refine NX.seq ?_
            refine WC.cond rfl ?_ ?_
            · intro hc67
              replace hF := bif_t hc67 hF
              refine WC.skip' ?_
              refine NX.seq ?_
              refine WC.seq ?_
              refine WC.block ?_
              refine WC.seq ?_
              refine WC.region ?_
              refine TL.yld rfl rfl (yld_fieldAddr rfl fo_38_1 rfl) ?_
              refine TL.yld rfl rfl (yld_load1 1 rfl ag_36 rfl (Box.cells hb64) rfl rfl) ?_
              refine TL.yld rfl rfl (yld_move rfl rfl) ?_
              obtain ⟨x68, hy69, hF⟩ := bsome hF
              refine TL.ye rfl rfl (ye_index (c := C_LatchLink) rfl Try.underlying36 cn_77 rfl rfl (slRep.old ha4 he62 (Nat.le_refl _)) hy69) ?_
              rintro _ ⟨b70, o71, us72, rfl, hib75, hr73, hcl74⟩
              have hib75 : 0 ≤ b70 ∧ b70 < w.heap.size := ⟨hib75.1, by have := hib75.2; omega⟩
              obtain rfl := C_LatchLink_open hr73
              refine TL.yld rfl rfl (yld_loadN (us := [.int .i64 x68.From, .int .i64 x68.To, .int .i64 x68.Delay, .int .i64 x68.Shift]) rfl ag_77 rfl hcl74 cn_77) ?_
              refine TL.eff rfl rfl (eff_alloc rfl zn_77) ?_
              rintro _ w77 ⟨b76, rfl, hn78⟩
              obtain ⟨hn78e, hn78s, hn78x, hb79⟩ := hn78
              have hb79 : Box w77 b76 [.int .i64 0, .int .i64 0, .int .i64 0, .int .i64 0] 77 := hb79
              have he81 : Ext w w77 := Ext.trans he62 hn78x
              have hb64 := Box.ext hb64 hn78x
              have hz82 := (hn78x).size
              have hlo80 : w.heap.size ≤ b76 := by rw [hn78e]; exact (he62).size
              refine TL.eff rfl rfl (eff_store rfl rfl rfl hb79 cn_77 rfl rfl) ?_
              rintro _ w83 ⟨hu84, hb85⟩
              have he86 : Ext w w83 := Below.trans he81 (Upd.below hu84 (by omega))
              have hb64 := Box.upd hb64 hu84 (by omega)
              have hz87 := (hu84).size
              have hb79 : Box w83 b76 [.int .i64 x68.From, .int .i64 x68.To, .int .i64 x68.Delay, .int .i64 x68.Shift] 77 := hb85
              refine TL.done ?_
              refine NX.seq ?_
              refine WC.seq ?_
              refine WC.region ?_
              refine TL.yld rfl rfl (yld_fieldAddr rfl fo_77_0 rfl) ?_
              refine TL.yld rfl rfl (yld_load1 0 rfl ag_2 rfl (Box.cells hb79) rfl rfl) ?_
              refine TL.yld rfl rfl (yld_move rfl rfl) ?_
              refine TL.yld rfl rfl (yld_sub rfl rfl rfl) ?_
              obtain ⟨r88, hr89, hF⟩ := bsome hF
              refine TL.eff rfl rfl (eff_call rfl gf_57 rfl (W_spec_l01In hr89)) ?_
              rintro _ w90 ⟨rfl, hx91⟩
              have he92 : Ext w w90 := Ext.trans he86 hx91
              have hb64 := Box.ext hb64 hx91
              have hb79 := Box.ext hb79 hx91
              have hz93 := (hx91).size
              refine TL.yld rfl rfl (yld_not rfl rfl) ?_
              refine TL.yld rfl rfl (yld_move rfl rfl) ?_
              obtain ⟨c94, hb95, hF⟩ := bsome hF
              refine TL.cut 7 [(1, .pointer (some ⟨b5, 0, none⟩)), (3, .int .i64 ((a0_s.Latches.length : Int))), (6, .int .i64 i63), (7, .pointer (some ⟨b76, 0, none⟩)), (60, .bool c94)] (fun w' => Ext w90 w') ?_ ?_
              · rcases Bool.eq_false_or_eq_true (!r88) with hg96 | hg96
                ·
                  rw [hg96] at hb95; simp only [cond_true, cond_false] at hb95
                  refine TL.gnu (j := 6) (t := 53) rfl rfl rfl hg96 rfl ?_
                  refine TL.gnu (j := 6) (t := 53) rfl rfl rfl hg96 rfl ?_
                  refine TL.gnu (j := 6) (t := 53) rfl rfl rfl hg96 rfl ?_
                  refine TL.gnu (j := 6) (t := 53) rfl rfl rfl hg96 rfl ?_
                  refine TL.gnu (j := 6) (t := 53) rfl rfl rfl hg96 rfl ?_
                  refine TL.gnu (j := 6) (t := 53) rfl rfl rfl hg96 rfl ?_
                  obtain rfl := Option.some.inj hb95
                  refine TL.yld rfl rfl (yld_pick_t rfl rfl hg96 rfl) ?_
                  exact TL.nil fun a h => ⟨h.weaken ⟨rfl, rfl, rfl, rfl, rfl, trivial⟩, Ext.refl _⟩
                ·
                  rw [hg96] at hb95; simp only [cond_true, cond_false] at hb95
                  replace hF := hb95
                  refine TL.gy (j := 6) (t := 53) rfl rfl rfl hg96 rfl (yld_fieldAddr rfl fo_77_1 rfl) ?_
                  refine TL.gy (j := 6) (t := 53) rfl rfl rfl hg96 rfl (yld_load1 1 rfl ag_2 rfl (Box.cells hb79) rfl rfl) ?_
                  refine TL.gy (j := 6) (t := 53) rfl rfl rfl hg96 rfl (yld_move rfl rfl) ?_
                  refine TL.gy (j := 6) (t := 53) rfl rfl rfl hg96 rfl (yld_sub rfl rfl rfl) ?_
                  obtain ⟨r97, hr98, hF⟩ := bsome hF
                  refine TL.ge (j := 6) (t := 53) rfl rfl rfl hg96 rfl (eff_call rfl gf_57 rfl (W_spec_l01In hr98)) ?_
                  rintro _ w99 ⟨rfl, hx100⟩
                  have he101 : Ext w w99 := Ext.trans he92 hx100
                  have hb64 := Box.ext hb64 hx100
                  have hb79 := Box.ext hb79 hx100
                  have hz102 := (hx100).size
                  refine TL.gy (j := 6) (t := 53) rfl rfl rfl hg96 rfl (yld_not rfl rfl) ?_
                  obtain rfl := Option.some.inj hF
                  refine TL.yld rfl rfl (yld_pick_f rfl rfl hg96 rfl) ?_
                  exact TL.nil fun a h => ⟨h.weaken ⟨rfl, rfl, rfl, rfl, rfl, trivial⟩, hx100⟩
              intro w103 hx104
              have he105 : Ext w w103 := Ext.trans he92 hx104
              have hb64 := Box.ext hb64 hx104
              have hb79 := Box.ext hb79 hx104
              have hz106 := (hx104).size
              refine TL.yld rfl rfl (yld_move rfl rfl) ?_
              obtain ⟨c107, hb108, hF⟩ := bsome hF
              refine TL.cut 5 [(1, .pointer (some ⟨b5, 0, none⟩)), (3, .int .i64 ((a0_s.Latches.length : Int))), (6, .int .i64 i63), (7, .pointer (some ⟨b76, 0, none⟩)), (66, .bool c107)] (fun w' => Ext w103 w') ?_ ?_
              · rcases Bool.eq_false_or_eq_true c94 with hg109 | hg109
                ·
                  rw [hg109] at hb108; simp only [cond_true, cond_false] at hb108
                  refine TL.gnu (j := 14) (t := 61) rfl rfl rfl hg109 rfl ?_
                  refine TL.gnu (j := 14) (t := 61) rfl rfl rfl hg109 rfl ?_
                  refine TL.gnu (j := 14) (t := 61) rfl rfl rfl hg109 rfl ?_
                  refine TL.gnu (j := 14) (t := 61) rfl rfl rfl hg109 rfl ?_
                  obtain rfl := Option.some.inj hb108
                  refine TL.yld rfl rfl (yld_pick_t rfl rfl hg109 rfl) ?_
                  exact TL.nil fun a h => ⟨h.weaken ⟨rfl, rfl, rfl, rfl, rfl, trivial⟩, Ext.refl _⟩
                ·
                  rw [hg109] at hb108; simp only [cond_true, cond_false] at hb108
                  replace hF := hb108
                  refine TL.gy (j := 14) (t := 61) rfl rfl rfl hg109 rfl (yld_fieldAddr rfl fo_77_2 rfl) ?_
                  refine TL.gy (j := 14) (t := 61) rfl rfl rfl hg109 rfl (yld_load1 2 rfl ag_2 rfl (Box.cells hb79) rfl rfl) ?_
                  obtain ⟨r110, hr111, hF⟩ := bsome hF
                  refine TL.ge (j := 14) (t := 61) rfl rfl rfl hg109 rfl (eff_call rfl gf_57 rfl (W_spec_l01In hr111)) ?_
                  rintro _ w112 ⟨rfl, hx113⟩
                  have he114 : Ext w w112 := Ext.trans he105 hx113
                  have hb64 := Box.ext hb64 hx113
                  have hb79 := Box.ext hb79 hx113
                  have hz115 := (hx113).size
                  refine TL.gy (j := 14) (t := 61) rfl rfl rfl hg109 rfl (yld_not rfl rfl) ?_
                  obtain rfl := Option.some.inj hF
                  refine TL.yld rfl rfl (yld_pick_f rfl rfl hg109 rfl) ?_
                  exact TL.nil fun a h => ⟨h.weaken ⟨rfl, rfl, rfl, rfl, rfl, trivial⟩, hx113⟩
              intro w116 hx117
              have he118 : Ext w w116 := Ext.trans he105 hx117
              have hb64 := Box.ext hb64 hx117
              have hb79 := Box.ext hb79 hx117
              have hz119 := (hx117).size
              refine TL.yld rfl rfl (yld_move rfl rfl) ?_
              obtain ⟨c120, hb121, hF⟩ := bsome hF
              refine TL.cut 5 [(1, .pointer (some ⟨b5, 0, none⟩)), (3, .int .i64 ((a0_s.Latches.length : Int))), (6, .int .i64 i63), (72, .bool c120)] (fun w' => Ext w116 w') ?_ ?_
              · rcases Bool.eq_false_or_eq_true c107 with hg122 | hg122
                ·
                  rw [hg122] at hb121; simp only [cond_true, cond_false] at hb121
                  refine TL.gnu (j := 20) (t := 67) rfl rfl rfl hg122 rfl ?_
                  refine TL.gnu (j := 20) (t := 67) rfl rfl rfl hg122 rfl ?_
                  refine TL.gnu (j := 20) (t := 67) rfl rfl rfl hg122 rfl ?_
                  refine TL.gnu (j := 20) (t := 67) rfl rfl rfl hg122 rfl ?_
                  obtain rfl := Option.some.inj hb121
                  refine TL.yld rfl rfl (yld_pick_t rfl rfl hg122 rfl) ?_
                  exact TL.nil fun a h => ⟨h.weaken ⟨rfl, rfl, rfl, rfl, trivial⟩, Ext.refl _⟩
                ·
                  rw [hg122] at hb121; simp only [cond_true, cond_false] at hb121
                  replace hF := hb121
                  refine TL.gy (j := 20) (t := 67) rfl rfl rfl hg122 rfl (yld_fieldAddr rfl fo_77_3 rfl) ?_
                  refine TL.gy (j := 20) (t := 67) rfl rfl rfl hg122 rfl (yld_load1 3 rfl ag_2 rfl (Box.cells hb79) rfl rfl) ?_
                  obtain ⟨r123, hr124, hF⟩ := bsome hF
                  refine TL.ge (j := 20) (t := 67) rfl rfl rfl hg122 rfl (eff_call rfl gf_57 rfl (W_spec_l01In hr124)) ?_
                  rintro _ w125 ⟨rfl, hx126⟩
                  have he127 : Ext w w125 := Ext.trans he118 hx126
                  have hb64 := Box.ext hb64 hx126
                  have hb79 := Box.ext hb79 hx126
                  have hz128 := (hx126).size
                  refine TL.gy (j := 20) (t := 67) rfl rfl rfl hg122 rfl (yld_not rfl rfl) ?_
                  obtain rfl := Option.some.inj hF
                  refine TL.yld rfl rfl (yld_pick_f rfl rfl hg122 rfl) ?_
                  exact TL.nil fun a h => ⟨h.weaken ⟨rfl, rfl, rfl, rfl, trivial⟩, hx126⟩
              intro w129 hx130
              have he131 : Ext w w129 := Ext.trans he118 hx130
              have hb64 := Box.ext hb64 hx130
              have hb79 := Box.ext hb79 hx130
              have hz132 := (hx130).size
              refine TL.done ?_
              refine NX.seq ?_
              refine WC.cond rfl ?_ ?_
              · intro hc133
                replace hF := bif_t hc133 hF
                refine WC.seq ?_
                refine WC.region ?_
                refine TL.yld rfl rfl (yld_assign rfl rfl) ?_
                refine TL.done ?_
                refine NX.seq ?_
                refine WC.ret' ?_
                refine NX.blk_r ?_
                refine NX.then_r ?_
                refine NX.then_r ?_
                refine NX.blk_r ?_
                refine NX.then_r ?_
                obtain rfl := Option.some.inj hF
                exact NX.end (rs := [.tmp 2]) (vs := [.bool false]) rfl ⟨rfl, trivial⟩ ⟨_, rfl, rfl, he131⟩
              · intro hc134
                replace hF := bif_f hc134 hF
                refine WC.skip' ?_
                refine NX.blk_n ?_
                refine NX.seq ?_
                refine WC.region ?_
                refine TL.yld rfl rfl (yld_move rfl rfl) ?_
                refine TL.yld rfl rfl (yld_add rfl rfl rfl) ?_
                refine TL.yld rfl rfl (yld_assign rfl rfl) ?_
                refine TL.done ?_
                refine NX.then_n ?_
                intro a hK; exact ⟨m65, Nat.lt_succ_self m65, (IntKind.wrap IntKind.i64 (i63 + 1)), hK.weaken ⟨rfl, rfl, rfl, trivial⟩, he131, (by omega), hb64, hF⟩
            · intro hc135
              replace hF := bif_f hc135 hF
              refine WC.exit' ?_
              refine NX.then_e ?_
              refine NX.then_e ?_
              refine NX.blk_hit ?_
              refine NX.seq ?_
              refine WC.seq ?_
              refine WC.region ?_
              refine TL.yld rfl rfl (yld_fieldAddr rfl fo_38_0 rfl) ?_
              refine TL.yld rfl rfl (yld_load1 0 rfl ag_35 rfl (Box.cells hb64) rfl rfl) ?_
              refine TL.yld rfl rfl (ye_len (c := C_Latch) rfl Try.underlying35 rfl (slRep.old ha2 he62 (Nat.le_refl _))) ?_
              refine TL.yld rfl rfl (yld_leq rfl rfl rfl) ?_
              refine TL.yld rfl rfl (yld_move rfl rfl) ?_
              refine TL.cut 5 [(82, .bool (((decide ((a0_s.Latches.length : Int) ≤ 12)) && (decide ((a0_s.Links.length : Int) ≤ 60)))))] (fun w' => Ext w61 w') ?_ ?_
              · rcases Bool.eq_false_or_eq_true (decide ((a0_s.Latches.length : Int) ≤ 12)) with hg136 | hg136
                ·
                  refine TL.gy (j := 4) (t := 77) rfl rfl rfl hg136 rfl (yld_fieldAddr rfl fo_38_1 rfl) ?_
                  refine TL.gy (j := 4) (t := 77) rfl rfl rfl hg136 rfl (yld_load1 1 rfl ag_36 rfl (Box.cells hb64) rfl rfl) ?_
                  refine TL.gy (j := 4) (t := 77) rfl rfl rfl hg136 rfl (ye_len (c := C_LatchLink) rfl Try.underlying36 rfl (slRep.old ha4 he62 (Nat.le_refl _))) ?_
                  refine TL.gy (j := 4) (t := 77) rfl rfl rfl hg136 rfl (yld_leq rfl rfl rfl) ?_
                  refine TL.yld rfl rfl (yld_and_t rfl rfl hg136 rfl) ?_
                  exact TL.nil fun a h => ⟨h.weaken ⟨rfl, trivial⟩, Ext.refl _⟩
                ·
                  refine TL.gnu (j := 4) (t := 77) rfl rfl rfl hg136 rfl ?_
                  refine TL.gnu (j := 4) (t := 77) rfl rfl rfl hg136 rfl ?_
                  refine TL.gnu (j := 4) (t := 77) rfl rfl rfl hg136 rfl ?_
                  refine TL.gnu (j := 4) (t := 77) rfl rfl rfl hg136 rfl ?_
                  refine TL.yld rfl rfl (yld_and_f (b2 := decide ((a0_s.Links.length : Int) ≤ 60)) rfl rfl hg136 rfl) ?_
                  exact TL.nil fun a h => ⟨h.weaken ⟨rfl, trivial⟩, Ext.refl _⟩
              intro w137 hx138
              have he139 : Ext w w137 := Ext.trans he62 hx138
              have hb64 := Box.ext hb64 hx138
              have hz140 := (hx138).size
              refine TL.yld rfl rfl (yld_assign rfl rfl) ?_
              refine TL.done ?_
              refine NX.seq ?_
              refine WC.ret' ?_
              obtain rfl := Option.some.inj hF
              exact NX.end (rs := [.tmp 2]) (vs := [.bool (((decide ((a0_s.Latches.length : Int) ≤ 12)) && (decide ((a0_s.Links.length : Int) ≤ 60))))]) rfl ⟨rfl, trivial⟩ ⟨_, rfl, rfl, he139⟩

-- loop.example/g00861/spec.l18Same
def F_spec_l18Same_L1 (a0_a : List Int) (a1_b : List Int) (k0 : Int → Option Bool) : Nat → Int → Option Bool
  | 0 => fun _ => none
  | m + 1 => fun i9 => (bif decide (i9 < (a0_a.length : Int)) then (Option.bind (getI a0_a i9) fun x11 => (Option.bind (getI a1_b i9) fun x19 => (bif (x11 != x19) then (some false) else (F_spec_l18Same_L1 a0_a a1_b k0 m (IntKind.wrap IntKind.i64 (i9 + 1)))))) else (k0 i9))
theorem F_spec_l18Same_L1_z (a0_a : List Int) (a1_b : List Int) (k0 : Int → Option Bool) (i9 : Int) : F_spec_l18Same_L1 a0_a a1_b k0 0 i9 = none := rfl
theorem F_spec_l18Same_L1_s (m : Nat) (a0_a : List Int) (a1_b : List Int) (k0 : Int → Option Bool) (i9 : Int) : F_spec_l18Same_L1 a0_a a1_b k0 (m + 1) i9 = (bif decide (i9 < (a0_a.length : Int)) then (Option.bind (getI a0_a i9) fun x11 => (Option.bind (getI a1_b i9) fun x19 => (bif (x11 != x19) then (some false) else (F_spec_l18Same_L1 a0_a a1_b k0 m (IntKind.wrap IntKind.i64 (i9 + 1)))))) else (k0 i9)) := rfl

def F_spec_l18Same (n : Nat) (a0_a : List Int) (a1_b : List Int) : Option Bool := (bif (((a0_a.length : Int)) != ((a1_b.length : Int))) then (some false) else (F_spec_l18Same_L1 a0_a a1_b (fun i9 => (some true)) n 0))
set_option maxHeartbeats 4000000 in
theorem W_spec_l18Same {n : Nat} {a0_a : List Int} {a1_b : List Int} {r : Bool} {w : World} {v1 : Value} {v3 : Value} (hF : F_spec_l18Same n a0_a a1_b = some r) (ha2 : slRep (cInt .i64) w (Iv 0 w.heap.size) a0_a v1) (ha4 : slRep (cInt .i64) w (Iv 0 w.heap.size) a1_b v3) :
    Calls Try.prog 75 [v1, v3].toArray w (Ret fun u w2 => u = .bool r ∧ Ext w w2) := by
  refine calls_of Try.func75 rfl Try.ntmps75 ?_
  have he0 : Ext w w := Ext.refl w
  unfold F_spec_l18Same at hF
  refine WC.seq ?_
  refine WC.region ?_
  refine TL.yld rfl rfl (yld_assign rfl rfl) ?_
  refine TL.done ?_
  refine NX.seq ?_
  refine WC.seq ?_
  refine WC.seq ?_
  refine WC.region ?_
  refine TL.yld rfl rfl (yld_move rfl rfl) ?_
  refine TL.yld rfl rfl (ye_len (c := (cInt .i64)) rfl Try.underlying45 rfl (slRep.old ha2 he0 (Nat.le_refl _))) ?_
  refine TL.yld rfl rfl (yld_move rfl rfl) ?_
  refine TL.yld rfl rfl (ye_len (c := (cInt .i64)) rfl Try.underlying45 rfl (slRep.old ha4 he0 (Nat.le_refl _))) ?_
  refine TL.yld rfl rfl (yld_neq rfl rfl rfl) ?_
  refine TL.done ?_
  refine NX.seq ?_
  refine WC.cond rfl ?_ ?_
  · intro hc5
    replace hF := bif_t hc5 hF
    refine WC.seq ?_
    refine WC.region ?_
    refine TL.yld rfl rfl (yld_assign rfl rfl) ?_
    refine TL.done ?_
    refine NX.seq ?_
    refine WC.ret' ?_
    refine NX.then_r ?_
    obtain rfl := Option.some.inj hF
    exact NX.end (rs := [.tmp 4]) (vs := [.bool false]) rfl ⟨rfl, trivial⟩ ⟨_, rfl, rfl, he0⟩
  · intro hc6
    replace hF := bif_f hc6 hF
    refine WC.skip' ?_
    refine NX.seq ?_
    refine WC.seq ?_
    refine WC.seq ?_
    refine WC.region ?_
    refine TL.yld rfl rfl (yld_assign rfl rfl) ?_
    refine TL.done ?_
    refine NX.seq ?_
    refine WC.block ?_
    refine WC.loop (fun m10 a wl => ∃ (i9 : Int), Kn 26 [(0, v1), (1, v3), (5, .int .i64 i9)] a ∧ Ext w wl ∧ w.heap.size ≤ wl.heap.size ∧ F_spec_l18Same_L1 a0_a a1_b (fun i9 => (some true)) m10 i9 = some r) n ?_ ?_
    · intro a hK; exact ⟨0, hK.weaken ⟨rfl, rfl, rfl, trivial⟩, he0, Nat.le_refl _, hF⟩
    · rintro m10 a w7 ⟨i9, hK, he8, hz11, hF⟩
      revert hK; revert a; refine (?_ : WC _ _ _ _ _ _)
      cases m10 with
      | zero => rw [F_spec_l18Same_L1_z] at hF; cases hF
      | succ m10 =>
        rw [F_spec_l18Same_L1_s] at hF
        refine WC.seq ?_
        refine WC.seq ?_
        refine WC.region ?_
        refine TL.yld rfl rfl (yld_move rfl rfl) ?_
        refine TL.yld rfl rfl (yld_move rfl rfl) ?_
        refine TL.yld rfl rfl (ye_len (c := (cInt .i64)) rfl Try.underlying45 rfl (slRep.old ha2 he8 (Nat.le_refl _))) ?_
        refine TL.yld rfl rfl (yld_lss rfl rfl rfl) ?_
        refine TL.done ?_
        refine NX.seq ?_
        refine WC.cond rfl ?_ ?_
        · intro hc12
          replace hF := bif_t hc12 hF
          refine WC.skip' ?_
          refine NX.seq ?_
          refine WC.seq ?_
          refine WC.block ?_
          refine WC.seq ?_
          refine WC.quiet Try.hm (by kernel_rfl) ?_
          refine QL.yld rfl rfl (Yld.qui (yld_move rfl rfl)) ?_
          refine QL.yld rfl rfl (Yld.qui (yld_move rfl rfl)) ?_
          obtain ⟨x13, hy14, hF⟩ := bsome hF
          refine QL.ye rfl rfl (ye_index (c := (cInt .i64)) rfl Try.underlying45 cn_2 rfl rfl (slRep.old ha2 he8 (Nat.le_refl _)) hy14) ?_
          rintro _ ⟨b15, o16, us17, rfl, hib20, hr18, hcl19⟩
          have hib20 : 0 ≤ b15 ∧ b15 < w.heap.size := ⟨hib20.1, by have := hib20.2; omega⟩
          obtain rfl := hr18
          refine QL.yld rfl rfl (Yld.qui (yld_load1 0 rfl ag_2 rfl hcl19 rfl rfl)) ?_
          refine QL.yld rfl rfl (Yld.qui (yld_move rfl rfl)) ?_
          refine QL.yld rfl rfl (Yld.qui (yld_move rfl rfl)) ?_
          obtain ⟨x21, hy22, hF⟩ := bsome hF
          refine QL.ye rfl rfl (ye_index (c := (cInt .i64)) rfl Try.underlying45 cn_2 rfl rfl (slRep.old ha4 he8 (Nat.le_refl _)) hy22) ?_
          rintro _ ⟨b23, o24, us25, rfl, hib28, hr26, hcl27⟩
          have hib28 : 0 ≤ b23 ∧ b23 < w.heap.size := ⟨hib28.1, by have := hib28.2; omega⟩
          obtain rfl := hr26
          refine QL.yld rfl rfl (Yld.qui (yld_load1 0 rfl ag_2 rfl hcl27 rfl rfl)) ?_
          refine QL.yld rfl rfl (Yld.qui (yld_neq rfl rfl rfl)) ?_
          refine QL.done fun w29 hx30 => ?_
          have he31 : Ext w w29 := Ext.trans he8 hx30
          have hz32 := (hx30).size
          refine NX.seq ?_
          refine WC.cond rfl ?_ ?_
          · intro hc33
            replace hF := bif_t hc33 hF
            refine WC.seq ?_
            refine WC.region ?_
            refine TL.yld rfl rfl (yld_assign rfl rfl) ?_
            refine TL.done ?_
            refine NX.seq ?_
            refine WC.ret' ?_
            refine NX.blk_r ?_
            refine NX.then_r ?_
            refine NX.then_r ?_
            refine NX.blk_r ?_
            refine NX.then_r ?_
            obtain rfl := Option.some.inj hF
            exact NX.end (rs := [.tmp 4]) (vs := [.bool false]) rfl ⟨rfl, trivial⟩ ⟨_, rfl, rfl, he31⟩
          · intro hc34
            replace hF := bif_f hc34 hF
            refine WC.skip' ?_
            refine NX.blk_n ?_
            refine NX.seq ?_
            refine WC.region ?_
            refine TL.yld rfl rfl (yld_move rfl rfl) ?_
            refine TL.yld rfl rfl (yld_add rfl rfl rfl) ?_
            refine TL.yld rfl rfl (yld_assign rfl rfl) ?_
            refine TL.done ?_
            refine NX.then_n ?_
            intro a hK; exact ⟨m10, Nat.lt_succ_self m10, (IntKind.wrap IntKind.i64 (i9 + 1)), hK.weaken ⟨rfl, rfl, rfl, trivial⟩, he31, (by omega), hF⟩
        · intro hc35
          replace hF := bif_f hc35 hF
          refine WC.exit' ?_
          refine NX.then_e ?_
          refine NX.then_e ?_
          refine NX.blk_hit ?_
          refine NX.seq ?_
          refine WC.seq ?_
          refine WC.region ?_
          refine TL.yld rfl rfl (yld_assign rfl rfl) ?_
          refine TL.done ?_
          refine NX.seq ?_
          refine WC.ret' ?_
          obtain rfl := Option.some.inj hF
          exact NX.end (rs := [.tmp 4]) (vs := [.bool true]) rfl ⟨rfl, trivial⟩ ⟨_, rfl, rfl, he8⟩

-- loop.example/g00861/spec.l18Opens
def F_spec_l18Opens_L1 (a0_s : S_LatchSystem) (k0 : (List Int) → Int → Option (List Int)) : Nat → (List Int) → Int → Option (List Int)
  | 0 => fun _ _ => none
  | m + 1 => fun l27 i31 => (bif decide (i31 < (a0_s.Latches.length : Int)) then (Option.bind (getI a0_s.Latches i31) fun x35 => (Option.bind (appN l27 [x35.Open] 8) fun z56 => (F_spec_l18Opens_L1 a0_s k0 m z56 (IntKind.wrap IntKind.i64 (i31 + 1))))) else (k0 l27 i31))
theorem F_spec_l18Opens_L1_z (a0_s : S_LatchSystem) (k0 : (List Int) → Int → Option (List Int)) (l27 : List Int) (i31 : Int) : F_spec_l18Opens_L1 a0_s k0 0 l27 i31 = none := rfl
theorem F_spec_l18Opens_L1_s (m : Nat) (a0_s : S_LatchSystem) (k0 : (List Int) → Int → Option (List Int)) (l27 : List Int) (i31 : Int) : F_spec_l18Opens_L1 a0_s k0 (m + 1) l27 i31 = (bif decide (i31 < (a0_s.Latches.length : Int)) then (Option.bind (getI a0_s.Latches i31) fun x35 => (Option.bind (appN l27 [x35.Open] 8) fun z56 => (F_spec_l18Opens_L1 a0_s k0 m z56 (IntKind.wrap IntKind.i64 (i31 + 1))))) else (k0 l27 i31)) := rfl

def F_spec_l18Opens (n : Nat) (a0_s : S_LatchSystem) : Option (List Int) := (F_spec_l18Opens_L1 a0_s (fun l27 i31 => (some l27)) n (([] : List Int)) 0)
set_option maxHeartbeats 4000000 in
theorem W_spec_l18Opens {n : Nat} {a0_s : S_LatchSystem} {r : List Int} {w : World} {v1 : Value} {v3 : Value} (hF : F_spec_l18Opens n a0_s = some r) (ha2 : slRep C_Latch w (Iv 0 w.heap.size) a0_s.Latches v1) (ha4 : slRep C_LatchLink w (Iv 0 w.heap.size) a0_s.Links v3) :
    Calls Try.prog 96 [.agg #[v1, v3]].toArray w (Ret fun u w2 => ∃ v0_0, u = v0_0 ∧ ownR (cInt .i64) w2 w.heap.size (Iv 0 0) 2 r v0_0 ∧ Ext w w2) := by
  refine calls_of Try.func96 rfl Try.ntmps96 ?_
  have he0 : Ext w w := Ext.refl w
  unfold F_spec_l18Opens at hF
  refine WC.seq ?_
  refine WC.region ?_
  refine TL.eff rfl rfl (eff_box rfl rfl) ?_
  rintro _ w6 ⟨b5, rfl, hn7⟩
  obtain ⟨hn7e, hn7s, hn7x, hb8⟩ := hn7
  have hb8 : Box w6 b5 [v1, v3] 38 := hb8
  have he10 : Ext w w6 := Ext.trans he0 hn7x
  have hz11 := (hn7x).size
  have hlo9 : w.heap.size ≤ b5 := by rw [hn7e]; exact (he0).size
  refine TL.yld rfl rfl (yld_assign rfl rfl) ?_
  refine TL.done ?_
  refine NX.seq ?_
  refine WC.seq ?_
  refine WC.region ?_
  refine TL.eff rfl rfl (eff_buildSlice (c := (cInt .i64)) (xs := ([] : List Int)) (S := (Iv 0 0)) (uss := []) (out := []) rfl Try.underlying45 in_2 rfl rfl (fillL_all [] rfl rfl rfl) rfl rfl rfl rfl (one_rep (uss := []) (show reps _ _ _ _ _ from trivial) rfl) (fun k h => by have := h.2; omega) rfl) ?_
  rintro v12 w13 ⟨g14, hv15, hg16, hz17, hx18, hs19⟩
  have he20 : Ext w w13 := Ext.trans he10 hx18
  have hb8 := Box.ext hb8 hx18
  have hz21 := (hx18).size
  have hlo22 : w.heap.size ≤ g14 := by rw [hg16]; exact (he10).size
  have hbd23 := bd_of hv15
  clear hv15
  refine TL.yld rfl rfl (yld_assign rfl rfl) ?_
  refine TL.done ?_
  refine NX.seq ?_
  refine WC.seq ?_
  refine WC.seq ?_
  refine WC.region ?_
  refine TL.yld rfl rfl (yld_assign rfl rfl) ?_
  refine TL.done ?_
  refine NX.seq ?_
  refine WC.block ?_
  refine WC.loop (fun m34 a wl => ∃ (l27 : List Int) (v28 : Value) (i31 : Int), Kn 23 [(1, .pointer (some ⟨b5, 0, none⟩)), (3, v28), (4, .int .i64 i31)] a ∧ Ext w wl ∧ w13.heap.size ≤ wl.heap.size ∧ Box wl b5 [v1, v3] 38 ∧ ownR (cInt .i64) wl (g14) (Iv 0 0) 2 l27 v28 ∧ (∀ q, v28.ownBlock = some q → g14 ≤ q ∧ q < wl.heap.size) ∧ (∀ g, v28.ownBlock = some g → g ≠ b5) ∧ F_spec_l18Opens_L1 a0_s (fun l27 i31 => (some l27)) m34 l27 i31 = some r) n ?_ ?_
  · intro a hK; exact ⟨(([] : List Int)), v12, 0, hK.weaken ⟨rfl, rfl, rfl, trivial⟩, he20, Nat.le_refl _, hb8, hs19, (fun g hg => by have := hbd23 g hg; omega), (fun g hg => by have := hbd23 g hg; omega), hF⟩
  · rintro m34 a w25 ⟨l27, v28, i31, hK, he26, hz35, hb32, hs29, hbd30, hp33, hF⟩
    revert hK; revert a; refine (?_ : WC _ _ _ _ _ _)
    cases m34 with
    | zero => rw [F_spec_l18Opens_L1_z] at hF; cases hF
    | succ m34 =>
      rw [F_spec_l18Opens_L1_s] at hF
      refine WC.seq ?_
      refine WC.seq ?_
      refine WC.region ?_
      refine TL.yld rfl rfl (yld_move rfl rfl) ?_
      refine TL.yld rfl rfl (yld_fieldAddr rfl fo_38_0 rfl) ?_
      refine TL.yld rfl rfl (yld_load1 0 rfl ag_35 rfl (Box.cells hb32) rfl rfl) ?_
      refine TL.yld rfl rfl (ye_len (c := C_Latch) rfl Try.underlying35 rfl (slRep.old ha2 he26 (Nat.le_refl _))) ?_
      refine TL.yld rfl rfl (yld_lss rfl rfl rfl) ?_
      refine TL.done ?_
      refine NX.seq ?_
      refine WC.cond rfl ?_ ?_
      · intro hc36
        replace hF := bif_t hc36 hF
        refine WC.skip' ?_
        refine NX.seq ?_
        refine WC.seq ?_
        refine WC.block ?_
        refine WC.region ?_
        refine TL.yld rfl rfl (yld_move rfl rfl) ?_
        refine TL.yld rfl rfl (yld_fieldAddr rfl fo_38_0 rfl) ?_
        refine TL.yld rfl rfl (yld_load1 0 rfl ag_35 rfl (Box.cells hb32) rfl rfl) ?_
        refine TL.yld rfl rfl (yld_move rfl rfl) ?_
        obtain ⟨x37, hy38, hF⟩ := bsome hF
        refine TL.ye rfl rfl (ye_index (c := C_Latch) rfl Try.underlying35 cn_50 rfl rfl (slRep.old ha2 he26 (Nat.le_refl _)) hy38) ?_
        rintro _ ⟨b39, o40, us41, rfl, hib44, hr42, hcl43⟩
        have hib44 : 0 ≤ b39 ∧ b39 < w.heap.size := ⟨hib44.1, by have := hib44.2; omega⟩
        obtain rfl := C_Latch_open hr42
        refine TL.yld rfl rfl (yld_fieldAddr rfl fo_50_0 rfl) ?_
        refine TL.yld rfl rfl (yld_load1 0 rfl ag_2 rfl hcl43 rfl rfl) ?_
        refine TL.eff rfl rfl (eff_buildSlice (c := (cInt .i64)) (xs := [x37.Open]) (S := (Iv 0 0)) (uss := [(0, [.int .i64 x37.Open])]) (out := [.int .i64 x37.Open]) rfl Try.underlying45 in_2 rfl rfl (fillL_all [[.int .i64 x37.Open]] rfl rfl rfl) rfl rfl rfl rfl (one_rep (uss := [[.int .i64 x37.Open]]) (show reps _ _ _ _ _ from ⟨rfl, trivial⟩) rfl) (fun k h => by have := h.2; omega) rfl) ?_
        rintro v45 w46 ⟨g47, hv48, hg49, hz50, hx51, hs52⟩
        have he53 : Ext w w46 := Ext.trans he26 hx51
        have hb32 := Box.ext hb32 hx51
        have hs29 := ownR.ext hs29 hx51
        have hz54 := (hx51).size
        have hlo55 : w.heap.size ≤ g47 := by rw [hg49]; exact (he26).size
        have hbd56 := bd_of hv48
        clear hv48
        obtain ⟨z58, ha59, hF⟩ := bsome hF
        refine TL.eff rfl rfl (eff_appendF (c := (cInt .i64)) rfl Try.underlying45 in_2 rfl rfl rfl rfl rfl hs29 (by omega) (ownR.slf hs52 (Nat.le_refl _) (Nat.le_refl _)) ha59) ?_
        rintro v60 w61 ⟨hs62, hgr63⟩
        have he65 : Ext w w61 := Below.trans he53 (Grew.low hgr63 (fun g hg => by have := hbd30 g hg; omega) (he53).size)
        have hp66 : ∀ g, v60.ownBlock = some g → g ≠ b5 := Grew.sepP (p := fun g => g ≠ b5) hgr63 hp33 (fun g hg => by omega)
        have hb32 := Grew.box hgr63 hb32 hp33
        have hp67 : ∀ g q, v28.ownBlock = some g → v45.ownBlock = some q → g ≠ q := (fun g q hg hq => by have := hbd30 g hg; have := hbd56 q hq; omega)
        have hp68 : ∀ g q, v60.ownBlock = some g → v45.ownBlock = some q → g ≠ q := fun g q hg hq => Grew.sepP (p := fun g => ∀ q, v45.ownBlock = some q → g ≠ q) hgr63 (fun g hg q hq => (hp67) g q hg hq) (fun g hg q hq => by have := hbd56 q hq; omega) g hg q hq
        have hs52 := Grew.ownF hgr63 hs52 hp67
        have hz69 := (hgr63).1.size
        have hbd70 : ∀ g, v60.ownBlock = some g → g14 ≤ g ∧ g < w61.heap.size := Grew.bd hgr63 hs62 (fun g hg => ⟨by have := hbd30 g hg; omega, (hbd30 g hg).2⟩) (by omega) (by omega)
        refine TL.yld rfl rfl (yld_assign rfl rfl) ?_
        refine TL.done ?_
        refine NX.blk_n ?_
        refine NX.seq ?_
        refine WC.region ?_
        refine TL.yld rfl rfl (yld_move rfl rfl) ?_
        refine TL.yld rfl rfl (yld_add rfl rfl rfl) ?_
        refine TL.yld rfl rfl (yld_assign rfl rfl) ?_
        refine TL.done ?_
        refine NX.then_n ?_
        intro a hK; exact ⟨m34, Nat.lt_succ_self m34, z58, v60, (IntKind.wrap IntKind.i64 (i31 + 1)), hK.weaken ⟨rfl, rfl, rfl, trivial⟩, he65, (by omega), hb32, hs62, (fun g hg => by have := hbd70 g hg; omega), hp66, hF⟩
      · intro hc71
        replace hF := bif_f hc71 hF
        refine WC.exit' ?_
        refine NX.then_e ?_
        refine NX.then_e ?_
        refine NX.blk_hit ?_
        refine NX.seq ?_
        refine WC.seq ?_
        refine WC.region ?_
        refine TL.yld rfl rfl (yld_move rfl rfl) ?_
        refine TL.yld rfl rfl (yld_assign rfl rfl) ?_
        refine TL.done ?_
        refine NX.seq ?_
        refine WC.ret' ?_
        obtain rfl := Option.some.inj hF
        exact NX.end (rs := [.tmp 2]) (vs := [v28]) rfl ⟨rfl, trivial⟩ ⟨_, rfl, _, rfl, ownR.base hs29 (by omega), he26⟩

-- loop.example/g00861/spec.l18Step
def F_spec_l18Step_L1 (a0_s : S_LatchSystem) (a1_times : List Int) (k0 : Int → (List Int) → Option (List Int)) : Nat → Int → (List Int) → Option (List Int)
  | 0 => fun _ _ => none
  | m + 1 => fun i26 l28 => (bif decide (i26 < (a0_s.Links.length : Int)) then (Option.bind (getI a0_s.Links i26) fun x31 => (Option.bind (getI l28 x31.To) fun x51 => (Option.bind (getI a1_times x31.From) fun x58 => (Option.bind (getI l28 x31.To) fun x66 => (F_spec_l18Step_L1 a0_s a1_times k0 m (IntKind.wrap IntKind.i64 (i26 + 1)) ((l28.set (x31.To).toNat (max x51 (IntKind.wrap IntKind.i64 ((IntKind.wrap IntKind.i64 (x58 + x31.Delay)) - x31.Shift)))))))))) else (k0 i26 l28))
theorem F_spec_l18Step_L1_z (a0_s : S_LatchSystem) (a1_times : List Int) (k0 : Int → (List Int) → Option (List Int)) (i26 : Int) (l28 : List Int) : F_spec_l18Step_L1 a0_s a1_times k0 0 i26 l28 = none := rfl
theorem F_spec_l18Step_L1_s (m : Nat) (a0_s : S_LatchSystem) (a1_times : List Int) (k0 : Int → (List Int) → Option (List Int)) (i26 : Int) (l28 : List Int) : F_spec_l18Step_L1 a0_s a1_times k0 (m + 1) i26 l28 = (bif decide (i26 < (a0_s.Links.length : Int)) then (Option.bind (getI a0_s.Links i26) fun x31 => (Option.bind (getI l28 x31.To) fun x51 => (Option.bind (getI a1_times x31.From) fun x58 => (Option.bind (getI l28 x31.To) fun x66 => (F_spec_l18Step_L1 a0_s a1_times k0 m (IntKind.wrap IntKind.i64 (i26 + 1)) ((l28.set (x31.To).toNat (max x51 (IntKind.wrap IntKind.i64 ((IntKind.wrap IntKind.i64 (x58 + x31.Delay)) - x31.Shift)))))))))) else (k0 i26 l28)) := rfl

def F_spec_l18Step (n : Nat) (a0_s : S_LatchSystem) (a1_times : List Int) : Option (List Int) := (Option.bind (F_spec_l18Opens n a0_s) fun r14 => (F_spec_l18Step_L1 a0_s a1_times (fun i26 l28 => (some l28)) n 0 r14))
set_option maxHeartbeats 4000000 in
theorem W_spec_l18Step {n : Nat} {a0_s : S_LatchSystem} {a1_times : List Int} {r : List Int} {w : World} {v1 : Value} {v3 : Value} {v5 : Value} (hF : F_spec_l18Step n a0_s a1_times = some r) (ha2 : slRep C_Latch w (Iv 0 w.heap.size) a0_s.Latches v1) (ha4 : slRep C_LatchLink w (Iv 0 w.heap.size) a0_s.Links v3) (ha6 : slRep (cInt .i64) w (Iv 0 w.heap.size) a1_times v5) :
    Calls Try.prog 76 [.agg #[v1, v3], v5].toArray w (Ret fun u w2 => ∃ v0_0, u = v0_0 ∧ ownR (cInt .i64) w2 w.heap.size (Iv 0 0) 2 r v0_0 ∧ Ext w w2) := by
  refine calls_of Try.func76 rfl Try.ntmps76 ?_
  have he0 : Ext w w := Ext.refl w
  unfold F_spec_l18Step at hF
  refine WC.seq ?_
  refine WC.region ?_
  refine TL.eff rfl rfl (eff_box rfl rfl) ?_
  rintro _ w8 ⟨b7, rfl, hn9⟩
  obtain ⟨hn9e, hn9s, hn9x, hb10⟩ := hn9
  have hb10 : Box w8 b7 [v1, v3] 38 := hb10
  have he12 : Ext w w8 := Ext.trans he0 hn9x
  have hz13 := (hn9x).size
  have hlo11 : w.heap.size ≤ b7 := by rw [hn9e]; exact (he0).size
  refine TL.yld rfl rfl (yld_assign rfl rfl) ?_
  refine TL.done ?_
  refine NX.seq ?_
  refine WC.seq ?_
  refine WC.region ?_
  refine TL.yld rfl rfl (yld_loadN (us := [v1, v3]) rfl ag_38 rfl (Box.cells hb10) cn_38) ?_
  obtain ⟨r14, hr15, hF⟩ := bsome hF
  refine TL.eff rfl rfl (eff_call rfl gf_96 rfl (W_spec_l18Opens hr15 ((slRep.old ha2 he12 (Nat.le_refl _)).wide (Nat.le_refl _) (he12).size) ((slRep.old ha4 he12 (Nat.le_refl _)).wide (Nat.le_refl _) (he12).size))) ?_
  rintro v18 w16 ⟨_, rfl, hs19, hx17⟩
  have he22 : Ext w w16 := Ext.trans he12 hx17
  have hb10 := Box.ext hb10 hx17
  have hz23 := (hx17).size
  have hbd21 := ownR.blk hs19
  refine TL.yld rfl rfl (yld_assign rfl rfl) ?_
  refine TL.done ?_
  refine NX.seq ?_
  refine WC.seq ?_
  refine WC.seq ?_
  refine WC.region ?_
  refine TL.yld rfl rfl (yld_assign rfl rfl) ?_
  refine TL.done ?_
  refine NX.seq ?_
  refine WC.block ?_
  refine WC.loop (fun m30 a wl => ∃ (i26 : Int) (l28 : List Int), Kn 44 [(1, v5), (2, .pointer (some ⟨b7, 0, none⟩)), (5, v18), (6, .int .i64 i26)] a ∧ Ext w wl ∧ w16.heap.size ≤ wl.heap.size ∧ Box wl b7 [v1, v3] 38 ∧ ownR (cInt .i64) wl (w8.heap.size) (Iv 0 0) 2 l28 v18 ∧ F_spec_l18Step_L1 a0_s a1_times (fun i26 l28 => (some l28)) m30 i26 l28 = some r) n ?_ ?_
  · intro a hK; exact ⟨0, r14, hK.weaken ⟨rfl, rfl, rfl, rfl, trivial⟩, he22, Nat.le_refl _, hb10, hs19, hF⟩
  · rintro m30 a w24 ⟨i26, l28, hK, he25, hz31, hb27, hs29, hF⟩
    revert hK; revert a; refine (?_ : WC _ _ _ _ _ _)
    cases m30 with
    | zero => rw [F_spec_l18Step_L1_z] at hF; cases hF
    | succ m30 =>
      rw [F_spec_l18Step_L1_s] at hF
      refine WC.seq ?_
      refine WC.seq ?_
      refine WC.region ?_
      refine TL.yld rfl rfl (yld_move rfl rfl) ?_
      refine TL.yld rfl rfl (yld_fieldAddr rfl fo_38_1 rfl) ?_
      refine TL.yld rfl rfl (yld_load1 1 rfl ag_36 rfl (Box.cells hb27) rfl rfl) ?_
      refine TL.yld rfl rfl (ye_len (c := C_LatchLink) rfl Try.underlying36 rfl (slRep.old ha4 he25 (Nat.le_refl _))) ?_
      refine TL.yld rfl rfl (yld_lss rfl rfl rfl) ?_
      refine TL.done ?_
      refine NX.seq ?_
      refine WC.cond rfl ?_ ?_
      · intro hc32
        replace hF := bif_t hc32 hF
        refine WC.skip' ?_
        refine NX.seq ?_
        refine WC.seq ?_
        refine WC.block ?_
        refine WC.seq ?_
        refine WC.region ?_
        refine TL.yld rfl rfl (yld_fieldAddr rfl fo_38_1 rfl) ?_
        refine TL.yld rfl rfl (yld_load1 1 rfl ag_36 rfl (Box.cells hb27) rfl rfl) ?_
        refine TL.yld rfl rfl (yld_move rfl rfl) ?_
        obtain ⟨x33, hy34, hF⟩ := bsome hF
        refine TL.ye rfl rfl (ye_index (c := C_LatchLink) rfl Try.underlying36 cn_77 rfl rfl (slRep.old ha4 he25 (Nat.le_refl _)) hy34) ?_
        rintro _ ⟨b35, o36, us37, rfl, hib40, hr38, hcl39⟩
        have hib40 : 0 ≤ b35 ∧ b35 < w.heap.size := ⟨hib40.1, by have := hib40.2; omega⟩
        obtain rfl := C_LatchLink_open hr38
        refine TL.yld rfl rfl (yld_loadN (us := [.int .i64 x33.From, .int .i64 x33.To, .int .i64 x33.Delay, .int .i64 x33.Shift]) rfl ag_77 rfl hcl39 cn_77) ?_
        refine TL.eff rfl rfl (eff_alloc rfl zn_77) ?_
        rintro _ w42 ⟨b41, rfl, hn43⟩
        obtain ⟨hn43e, hn43s, hn43x, hb44⟩ := hn43
        have hb44 : Box w42 b41 [.int .i64 0, .int .i64 0, .int .i64 0, .int .i64 0] 77 := hb44
        have he46 : Ext w w42 := Ext.trans he25 hn43x
        have hb27 := Box.ext hb27 hn43x
        have hs29 := ownR.ext hs29 hn43x
        have hz47 := (hn43x).size
        have hlo45 : w.heap.size ≤ b41 := by rw [hn43e]; exact (he25).size
        refine TL.eff rfl rfl (eff_store rfl rfl rfl hb44 cn_77 rfl rfl) ?_
        rintro _ w48 ⟨hu49, hb50⟩
        have he51 : Ext w w48 := Below.trans he46 (Upd.below hu49 (by omega))
        have hb27 := Box.upd hb27 hu49 (by omega)
        have hs29 := ownR.upd hs29 hu49 (fun g hg => by have := hbd21 g hg; omega)
        have hz52 := (hu49).size
        have hb44 : Box w48 b41 [.int .i64 x33.From, .int .i64 x33.To, .int .i64 x33.Delay, .int .i64 x33.Shift] 77 := hb50
        refine TL.done ?_
        refine NX.seq ?_
        obtain ⟨x53, hy54, hF⟩ := bsome hF
        obtain ⟨x60, hy61, hF⟩ := bsome hF
        obtain ⟨x68, hy69, hF⟩ := bsome hF
        refine WC.held 20 Try.hm fun w80 hx81 => ?_
        have he82 : Ext w w80 := Ext.trans he51 hx81
        have hb27 := Box.ext hb27 hx81
        have hb44 := Box.ext hb44 hx81
        have hs29 := ownR.ext hs29 hx81
        have hz83 := (hx81).size
        refine HL.yld 0 (by kernel_rfl) rfl (by kernel_rfl) rfl rfl (yld_move rfl rfl) ?_
        refine HL.yld 1 (by kernel_rfl) rfl (by kernel_rfl) rfl rfl (yld_fieldAddr rfl fo_77_1 rfl) ?_
        refine HL.yld 2 (by kernel_rfl) rfl (by kernel_rfl) rfl rfl (yld_load1 1 rfl ag_2 rfl (Box.cells hb44) rfl rfl) ?_
        refine HL.yld 3 (by kernel_rfl) rfl (by kernel_rfl) rfl rfl (yld_move rfl rfl) ?_
        refine HL.yld 4 (by kernel_rfl) rfl (by kernel_rfl) rfl rfl (yld_fieldAddr rfl fo_77_1 rfl) ?_
        refine HL.yld 5 (by kernel_rfl) rfl (by kernel_rfl) rfl rfl (yld_load1 1 rfl ag_2 rfl (Box.cells hb44) rfl rfl) ?_
        refine HL.ye 6 (by kernel_rfl) rfl (by kernel_rfl) rfl rfl (ye_index_own (c := (cInt .i64)) rfl Try.underlying45 cn_2 rfl rfl hs29 hy54) ?_
        rintro _ ⟨g84, us86, rfl, hg85, hr87, hcl88⟩
        have hr87r := hr87
        obtain rfl := hr87
        refine HL.yld 7 (by kernel_rfl) rfl (by kernel_rfl) rfl rfl (yld_load1 0 rfl ag_2 rfl hcl88 rfl rfl) ?_
        refine HL.yld 8 (by kernel_rfl) rfl (by kernel_rfl) rfl rfl (yld_move rfl rfl) ?_
        refine HL.yld 9 (by kernel_rfl) rfl (by kernel_rfl) rfl rfl (yld_fieldAddr rfl fo_77_0 rfl) ?_
        refine HL.yld 10 (by kernel_rfl) rfl (by kernel_rfl) rfl rfl (yld_load1 0 rfl ag_2 rfl (Box.cells hb44) rfl rfl) ?_
        refine HL.ye 11 (by kernel_rfl) rfl (by kernel_rfl) rfl rfl (ye_index (c := (cInt .i64)) rfl Try.underlying45 cn_2 rfl rfl (slRep.old ha6 he82 (Nat.le_refl _)) hy61) ?_
        rintro _ ⟨b89, o90, us91, rfl, hib94, hr92, hcl93⟩
        have hib94 : 0 ≤ b89 ∧ b89 < w.heap.size := ⟨hib94.1, by have := hib94.2; omega⟩
        obtain rfl := hr92
        refine HL.yld 12 (by kernel_rfl) rfl (by kernel_rfl) rfl rfl (yld_load1 0 rfl ag_2 rfl hcl93 rfl rfl) ?_
        refine HL.yld 13 (by kernel_rfl) rfl (by kernel_rfl) rfl rfl (yld_fieldAddr rfl fo_77_2 rfl) ?_
        refine HL.yld 14 (by kernel_rfl) rfl (by kernel_rfl) rfl rfl (yld_load1 2 rfl ag_2 rfl (Box.cells hb44) rfl rfl) ?_
        refine HL.yld 15 (by kernel_rfl) rfl (by kernel_rfl) rfl rfl (yld_add rfl rfl rfl) ?_
        refine HL.yld 16 (by kernel_rfl) rfl (by kernel_rfl) rfl rfl (yld_fieldAddr rfl fo_77_3 rfl) ?_
        refine HL.yld 17 (by kernel_rfl) rfl (by kernel_rfl) rfl rfl (yld_load1 3 rfl ag_2 rfl (Box.cells hb44) rfl rfl) ?_
        refine HL.yld 18 (by kernel_rfl) rfl (by kernel_rfl) rfl rfl (yld_sub rfl rfl rfl) ?_
        refine HL.yld 19 (by kernel_rfl) rfl (by kernel_rfl) rfl rfl (yld_max2 rfl rfl rfl) ?_
        refine HL.tail rfl (by kernel_rfl) rfl ?_
        refine TL.ye rfl rfl (ye_index_own (c := (cInt .i64)) rfl Try.underlying45 cn_2 rfl rfl hs29 hy69) ?_
        rintro _ ⟨g95, us97, rfl, hg96, hr98, hcl99⟩
        have hr98r := hr98
        obtain rfl := hr98
        refine TL.eff rfl rfl (eff_store_own (c := (cInt .i64)) (us' := [.int .i64 (max x53 (IntKind.wrap IntKind.i64 ((IntKind.wrap IntKind.i64 (x60 + x33.Delay)) - x33.Shift)))]) (y' := max x53 (IntKind.wrap IntKind.i64 ((IntKind.wrap IntKind.i64 (x60 + x33.Delay)) - x33.Shift))) 0 _ rfl rfl rfl hs29 hg96 hy69 rfl cn_2 rfl hr98r hcl99 rfl rfl rfl (fun k h => absurd h.2 (Nat.not_lt_zero k))) ?_
        rintro _ w100 ⟨hu101, hs102⟩
        have he103 : Ext w w100 := Below.trans he82 (Upd.below hu101 (by have := hbd21 _ hg96; omega))
        have hb27 := Box.upd hb27 hu101 (by have := hbd21 _ hg96; omega)
        have hb44 := Box.upd hb44 hu101 (by have := hbd21 _ hg96; omega)
        have hz104 := (hu101).size
        refine TL.noPan (l := []) ?_
        refine NX.blk_n ?_
        refine NX.seq ?_
        refine WC.region ?_
        refine TL.yld rfl rfl (yld_move rfl rfl) ?_
        refine TL.yld rfl rfl (yld_add rfl rfl rfl) ?_
        refine TL.yld rfl rfl (yld_assign rfl rfl) ?_
        refine TL.done ?_
        refine NX.then_n ?_
        intro a hK; exact ⟨m30, Nat.lt_succ_self m30, (IntKind.wrap IntKind.i64 (i26 + 1)), ((l28.set (x33.To).toNat (max x53 (IntKind.wrap IntKind.i64 ((IntKind.wrap IntKind.i64 (x60 + x33.Delay)) - x33.Shift))))), hK.weaken ⟨rfl, rfl, rfl, rfl, trivial⟩, he103, (by omega), hb27, hs102, hF⟩
      · intro hc105
        replace hF := bif_f hc105 hF
        refine WC.exit' ?_
        refine NX.then_e ?_
        refine NX.then_e ?_
        refine NX.blk_hit ?_
        refine NX.seq ?_
        refine WC.seq ?_
        refine WC.region ?_
        refine TL.yld rfl rfl (yld_move rfl rfl) ?_
        refine TL.yld rfl rfl (yld_assign rfl rfl) ?_
        refine TL.done ?_
        refine NX.seq ?_
        refine WC.ret' ?_
        obtain rfl := Option.some.inj hF
        exact NX.end (rs := [.tmp 4]) (vs := [v18]) rfl ⟨rfl, trivial⟩ ⟨_, rfl, _, rfl, ownR.base hs29 (by omega), he25⟩

-- loop.example/g00861/spec.l18Departures
def F_spec_l18Departures_L1 (n : Nat) (a0_s : S_LatchSystem) (k0 : (List Int) → Int → Option ((List Int) × Bool)) : Nat → (List Int) → Int → Option ((List Int) × Bool)
  | 0 => fun _ _ => none
  | m + 1 => fun l24 i28 => (bif decide (i28 ≤ (a0_s.Latches.length : Int)) then (Option.bind (F_spec_l18Step n a0_s l24) fun r32 => (Option.bind (F_spec_l18Same n r32 l24) fun r42 => (bif r42 then (some (l24, true)) else (F_spec_l18Departures_L1 n a0_s k0 m r32 (IntKind.wrap IntKind.i64 (i28 + 1)))))) else (k0 l24 i28))
theorem F_spec_l18Departures_L1_z (n : Nat) (a0_s : S_LatchSystem) (k0 : (List Int) → Int → Option ((List Int) × Bool)) (l24 : List Int) (i28 : Int) : F_spec_l18Departures_L1 n a0_s k0 0 l24 i28 = none := rfl
theorem F_spec_l18Departures_L1_s (m : Nat) (n : Nat) (a0_s : S_LatchSystem) (k0 : (List Int) → Int → Option ((List Int) × Bool)) (l24 : List Int) (i28 : Int) : F_spec_l18Departures_L1 n a0_s k0 (m + 1) l24 i28 = (bif decide (i28 ≤ (a0_s.Latches.length : Int)) then (Option.bind (F_spec_l18Step n a0_s l24) fun r32 => (Option.bind (F_spec_l18Same n r32 l24) fun r42 => (bif r42 then (some (l24, true)) else (F_spec_l18Departures_L1 n a0_s k0 m r32 (IntKind.wrap IntKind.i64 (i28 + 1)))))) else (k0 l24 i28)) := rfl

def F_spec_l18Departures (n : Nat) (a0_s : S_LatchSystem) : Option ((List Int) × Bool) := (Option.bind (F_spec_l18Opens n a0_s) fun r12 => (F_spec_l18Departures_L1 n a0_s (fun l24 i28 => (some (([] : List Int), false))) n r12 0))
set_option maxHeartbeats 4000000 in
theorem W_spec_l18Departures {n : Nat} {a0_s : S_LatchSystem} {r : (List Int) × Bool} {w : World} {v1 : Value} {v3 : Value} (hF : F_spec_l18Departures n a0_s = some r) (ha2 : slRep C_Latch w (Iv 0 w.heap.size) a0_s.Latches v1) (ha4 : slRep C_LatchLink w (Iv 0 w.heap.size) a0_s.Links v3) :
    Calls Try.prog 95 [.agg #[v1, v3]].toArray w (Ret fun u w2 => ∃ v0_0, u = .tuple #[v0_0, .bool r.2] ∧ ownR (cInt .i64) w2 w.heap.size (Iv 0 0) 2 r.1 v0_0 ∧ Ext w w2) := by
  refine calls_of Try.func95 rfl Try.ntmps95 ?_
  have he0 : Ext w w := Ext.refl w
  unfold F_spec_l18Departures at hF
  refine WC.seq ?_
  refine WC.region ?_
  refine TL.eff rfl rfl (eff_box rfl rfl) ?_
  rintro _ w6 ⟨b5, rfl, hn7⟩
  obtain ⟨hn7e, hn7s, hn7x, hb8⟩ := hn7
  have hb8 : Box w6 b5 [v1, v3] 38 := hb8
  have he10 : Ext w w6 := Ext.trans he0 hn7x
  have hz11 := (hn7x).size
  have hlo9 : w.heap.size ≤ b5 := by rw [hn7e]; exact (he0).size
  refine TL.yld rfl rfl (yld_assign rfl rfl) ?_
  refine TL.yld rfl rfl (yld_assign rfl rfl) ?_
  refine TL.done ?_
  refine NX.seq ?_
  refine WC.seq ?_
  refine WC.region ?_
  refine TL.yld rfl rfl (yld_loadN (us := [v1, v3]) rfl ag_38 rfl (Box.cells hb8) cn_38) ?_
  obtain ⟨r12, hr13, hF⟩ := bsome hF
  refine TL.eff rfl rfl (eff_call rfl gf_96 rfl (W_spec_l18Opens hr13 ((slRep.old ha2 he10 (Nat.le_refl _)).wide (Nat.le_refl _) (he10).size) ((slRep.old ha4 he10 (Nat.le_refl _)).wide (Nat.le_refl _) (he10).size))) ?_
  rintro v16 w14 ⟨_, rfl, hs17, hx15⟩
  have he20 : Ext w w14 := Ext.trans he10 hx15
  have hb8 := Box.ext hb8 hx15
  have hz21 := (hx15).size
  have hbd19 := ownR.blk hs17
  refine TL.yld rfl rfl (yld_assign rfl rfl) ?_
  refine TL.done ?_
  refine NX.seq ?_
  refine WC.seq ?_
  refine WC.seq ?_
  refine WC.region ?_
  refine TL.yld rfl rfl (yld_assign rfl rfl) ?_
  refine TL.done ?_
  refine NX.seq ?_
  refine WC.block ?_
  refine WC.loop (fun m31 a wl => ∃ (l24 : List Int) (v25 : Value) (i28 : Int), Kn 25 [(1, .pointer (some ⟨b5, 0, none⟩)), (4, v25), (5, .int .i64 i28)] a ∧ Ext w wl ∧ w14.heap.size ≤ wl.heap.size ∧ Box wl b5 [v1, v3] 38 ∧ ownR (cInt .i64) wl (w6.heap.size) (Iv 0 0) 2 l24 v25 ∧ (∀ q, v25.ownBlock = some q → w6.heap.size ≤ q ∧ q < wl.heap.size) ∧ (∀ g, v25.ownBlock = some g → g ≠ b5) ∧ F_spec_l18Departures_L1 n a0_s (fun l24 i28 => (some (([] : List Int), false))) m31 l24 i28 = some r) n ?_ ?_
  · intro a hK; exact ⟨r12, v16, 0, hK.weaken ⟨rfl, rfl, rfl, trivial⟩, he20, Nat.le_refl _, hb8, hs17, (fun g hg => by have := hbd19 g hg; omega), (fun g hg => by have := hbd19 g hg; omega), hF⟩
  · rintro m31 a w22 ⟨l24, v25, i28, hK, he23, hz32, hb29, hs26, hbd27, hp30, hF⟩
    revert hK; revert a; refine (?_ : WC _ _ _ _ _ _)
    cases m31 with
    | zero => rw [F_spec_l18Departures_L1_z] at hF; cases hF
    | succ m31 =>
      rw [F_spec_l18Departures_L1_s] at hF
      refine WC.seq ?_
      refine WC.seq ?_
      refine WC.region ?_
      refine TL.yld rfl rfl (yld_move rfl rfl) ?_
      refine TL.yld rfl rfl (yld_fieldAddr rfl fo_38_0 rfl) ?_
      refine TL.yld rfl rfl (yld_load1 0 rfl ag_35 rfl (Box.cells hb29) rfl rfl) ?_
      refine TL.yld rfl rfl (ye_len (c := C_Latch) rfl Try.underlying35 rfl (slRep.old ha2 he23 (Nat.le_refl _))) ?_
      refine TL.yld rfl rfl (yld_leq rfl rfl rfl) ?_
      refine TL.done ?_
      refine NX.seq ?_
      refine WC.cond rfl ?_ ?_
      · intro hc33
        replace hF := bif_t hc33 hF
        refine WC.skip' ?_
        refine NX.seq ?_
        refine WC.seq ?_
        refine WC.block ?_
        refine WC.seq ?_
        refine WC.region ?_
        refine TL.yld rfl rfl (yld_loadN (us := [v1, v3]) rfl ag_38 rfl (Box.cells hb29) cn_38) ?_
        refine TL.yld rfl rfl (yld_move rfl rfl) ?_
        obtain ⟨r34, hr35, hF⟩ := bsome hF
        refine TL.eff rfl rfl (eff_call rfl gf_76 rfl (W_spec_l18Step hr35 ((slRep.old ha2 he23 (Nat.le_refl _)).wide (Nat.le_refl _) (he23).size) ((slRep.old ha4 he23 (Nat.le_refl _)).wide (Nat.le_refl _) (he23).size) (ownR.slf hs26 (Nat.zero_le _) (Nat.le_refl _)))) ?_
        rintro v38 w36 ⟨_, rfl, hs39, hx37⟩
        have he42 : Ext w w36 := Ext.trans he23 hx37
        have hb29 := Box.ext hb29 hx37
        have hs26 := ownR.ext hs26 hx37
        have hz43 := (hx37).size
        have hbd41 := ownR.blk hs39
        refine TL.yld rfl rfl (yld_assign rfl rfl) ?_
        refine TL.done ?_
        refine NX.seq ?_
        refine WC.seq ?_
        refine WC.seq ?_
        refine WC.region ?_
        refine TL.yld rfl rfl (yld_move rfl rfl) ?_
        refine TL.yld rfl rfl (yld_move rfl rfl) ?_
        obtain ⟨r44, hr45, hF⟩ := bsome hF
        refine TL.eff rfl rfl (eff_call rfl gf_75 rfl (W_spec_l18Same hr45 (ownR.slf hs39 (Nat.zero_le _) (Nat.le_refl _)) (ownR.slf hs26 (Nat.zero_le _) (Nat.le_refl _)))) ?_
        rintro _ w46 ⟨rfl, hx47⟩
        have he48 : Ext w w46 := Ext.trans he42 hx47
        have hb29 := Box.ext hb29 hx47
        have hs26 := ownR.ext hs26 hx47
        have hs39 := ownR.ext hs39 hx47
        have hz49 := (hx47).size
        refine TL.done ?_
        refine NX.seq ?_
        refine WC.cond rfl ?_ ?_
        · intro hc50
          replace hF := bif_t hc50 hF
          refine WC.seq ?_
          refine WC.region ?_
          refine TL.yld rfl rfl (yld_move rfl rfl) ?_
          refine TL.yld rfl rfl (yld_assign rfl rfl) ?_
          refine TL.yld rfl rfl (yld_assign rfl rfl) ?_
          refine TL.done ?_
          refine NX.seq ?_
          refine WC.ret' ?_
          refine NX.then_r ?_
          refine NX.blk_r ?_
          refine NX.then_r ?_
          refine NX.then_r ?_
          refine NX.blk_r ?_
          refine NX.then_r ?_
          obtain rfl := Option.some.inj hF
          exact NX.end (rs := [.tmp 2, .tmp 3]) (vs := [v25, .bool true]) rfl ⟨rfl, rfl, trivial⟩ ⟨_, rfl, _, rfl, ownR.base hs26 (by omega), he48⟩
        · intro hc51
          replace hF := bif_f hc51 hF
          refine WC.skip' ?_
          refine NX.seq ?_
          refine WC.region ?_
          refine TL.yld rfl rfl (yld_move rfl rfl) ?_
          refine TL.yld rfl rfl (yld_assign rfl rfl) ?_
          refine TL.done ?_
          refine NX.blk_n ?_
          refine NX.seq ?_
          refine WC.region ?_
          refine TL.yld rfl rfl (yld_move rfl rfl) ?_
          refine TL.yld rfl rfl (yld_add rfl rfl rfl) ?_
          refine TL.yld rfl rfl (yld_assign rfl rfl) ?_
          refine TL.done ?_
          refine NX.then_n ?_
          intro a hK; exact ⟨m31, Nat.lt_succ_self m31, r34, v38, (IntKind.wrap IntKind.i64 (i28 + 1)), hK.weaken ⟨rfl, rfl, rfl, trivial⟩, he48, (by omega), hb29, (ownR.base hs39 (by omega)), (fun g hg => by have := hbd41 g hg; omega), (fun g hg => by have := hbd41 g hg; omega), hF⟩
      · intro hc52
        replace hF := bif_f hc52 hF
        refine WC.exit' ?_
        refine NX.then_e ?_
        refine NX.then_e ?_
        refine NX.blk_hit ?_
        refine NX.seq ?_
        refine WC.seq ?_
        refine WC.region ?_
        refine TL.eff rfl rfl (eff_buildSlice (c := (cInt .i64)) (xs := ([] : List Int)) (S := (Iv 0 0)) (uss := []) (out := []) rfl Try.underlying45 in_2 rfl rfl (fillL_all [] rfl rfl rfl) rfl rfl rfl rfl (one_rep (uss := []) (show reps _ _ _ _ _ from trivial) rfl) (fun k h => by have := h.2; omega) rfl) ?_
        rintro v53 w54 ⟨g55, hv56, hg57, hz58, hx59, hs60⟩
        have he61 : Ext w w54 := Ext.trans he23 hx59
        have hb29 := Box.ext hb29 hx59
        have hs26 := ownR.ext hs26 hx59
        have hz62 := (hx59).size
        have hlo63 : w.heap.size ≤ g55 := by rw [hg57]; exact (he23).size
        have hbd64 := bd_of hv56
        clear hv56
        refine TL.yld rfl rfl (yld_assign rfl rfl) ?_
        refine TL.yld rfl rfl (yld_assign rfl rfl) ?_
        refine TL.done ?_
        refine NX.seq ?_
        refine WC.ret' ?_
        obtain rfl := Option.some.inj hF
        exact NX.end (rs := [.tmp 2, .tmp 3]) (vs := [v53, .bool false]) rfl ⟨rfl, rfl, trivial⟩ ⟨_, rfl, _, rfl, ownR.base hs60 (by omega), he61⟩

-- loop.example/g00861/spec.l18Code
def F_spec_l18Code (n : Nat) (a0_s : S_LatchSystem) : Option ((List Int) × Int) := (Option.bind (F_spec_IsLatchSystem n a0_s) fun r12 => (bif (!r12) then (some (([] : List Int), 1)) else (Option.bind (F_spec_l18Departures n a0_s) fun r33 => (bif (!r33.2) then (some (([] : List Int), 7)) else (some (r33.1, 0))))))
set_option maxHeartbeats 4000000 in
theorem W_spec_l18Code {n : Nat} {a0_s : S_LatchSystem} {r : (List Int) × Int} {w : World} {v1 : Value} {v3 : Value} (hF : F_spec_l18Code n a0_s = some r) (ha2 : slRep C_Latch w (Iv 0 w.heap.size) a0_s.Latches v1) (ha4 : slRep C_LatchLink w (Iv 0 w.heap.size) a0_s.Links v3) :
    Calls Try.prog 67 [.agg #[v1, v3]].toArray w (Ret fun u w2 => ∃ v0_0, u = .tuple #[v0_0, .int .i64 r.2] ∧ ownR (cInt .i64) w2 w.heap.size (Iv 0 0) 2 r.1 v0_0 ∧ Ext w w2) := by
  refine calls_of Try.func67 rfl Try.ntmps67 ?_
  have he0 : Ext w w := Ext.refl w
  unfold F_spec_l18Code at hF
  refine WC.seq ?_
  refine WC.region ?_
  refine TL.eff rfl rfl (eff_box rfl rfl) ?_
  rintro _ w6 ⟨b5, rfl, hn7⟩
  obtain ⟨hn7e, hn7s, hn7x, hb8⟩ := hn7
  have hb8 : Box w6 b5 [v1, v3] 38 := hb8
  have he10 : Ext w w6 := Ext.trans he0 hn7x
  have hz11 := (hn7x).size
  have hlo9 : w.heap.size ≤ b5 := by rw [hn7e]; exact (he0).size
  refine TL.yld rfl rfl (yld_assign rfl rfl) ?_
  refine TL.yld rfl rfl (yld_assign rfl rfl) ?_
  refine TL.done ?_
  refine NX.seq ?_
  refine WC.seq ?_
  refine WC.seq ?_
  refine WC.region ?_
  refine TL.yld rfl rfl (yld_loadN (us := [v1, v3]) rfl ag_38 rfl (Box.cells hb8) cn_38) ?_
  obtain ⟨r12, hr13, hF⟩ := bsome hF
  refine TL.eff rfl rfl (eff_call rfl gf_19 rfl (W_spec_IsLatchSystem hr13 ((slRep.old ha2 he10 (Nat.le_refl _)).wide (Nat.le_refl _) (he10).size) ((slRep.old ha4 he10 (Nat.le_refl _)).wide (Nat.le_refl _) (he10).size))) ?_
  rintro _ w14 ⟨rfl, hx15⟩
  have he16 : Ext w w14 := Ext.trans he10 hx15
  have hb8 := Box.ext hb8 hx15
  have hz17 := (hx15).size
  refine TL.yld rfl rfl (yld_not rfl rfl) ?_
  refine TL.done ?_
  refine NX.seq ?_
  refine WC.cond rfl ?_ ?_
  · intro hc18
    replace hF := bif_t hc18 hF
    refine WC.seq ?_
    refine WC.region ?_
    refine TL.eff rfl rfl (eff_buildSlice (c := (cInt .i64)) (xs := ([] : List Int)) (S := (Iv 0 0)) (uss := []) (out := []) rfl Try.underlying45 in_2 rfl rfl (fillL_all [] rfl rfl rfl) rfl rfl rfl rfl (one_rep (uss := []) (show reps _ _ _ _ _ from trivial) rfl) (fun k h => by have := h.2; omega) rfl) ?_
    rintro v19 w20 ⟨g21, hv22, hg23, hz24, hx25, hs26⟩
    have he27 : Ext w w20 := Ext.trans he16 hx25
    have hb8 := Box.ext hb8 hx25
    have hz28 := (hx25).size
    have hlo29 : w.heap.size ≤ g21 := by rw [hg23]; exact (he16).size
    have hbd30 := bd_of hv22
    clear hv22
    refine TL.yld rfl rfl (yld_assign rfl rfl) ?_
    refine TL.yld rfl rfl (yld_assign rfl rfl) ?_
    refine TL.done ?_
    refine NX.seq ?_
    refine WC.ret' ?_
    refine NX.then_r ?_
    obtain rfl := Option.some.inj hF
    exact NX.end (rs := [.tmp 2, .tmp 3]) (vs := [v19, .int .i64 1]) rfl ⟨rfl, rfl, trivial⟩ ⟨_, rfl, _, rfl, ownR.base hs26 (by omega), he27⟩
  · intro hc32
    replace hF := bif_f hc32 hF
    refine WC.skip' ?_
    refine NX.seq ?_
    refine WC.seq ?_
    refine WC.region ?_
    refine TL.yld rfl rfl (yld_loadN (us := [v1, v3]) rfl ag_38 rfl (Box.cells hb8) cn_38) ?_
    obtain ⟨r33, hr34, hF⟩ := bsome hF
    refine TL.eff rfl rfl (eff_call rfl gf_95 rfl (W_spec_l18Departures hr34 ((slRep.old ha2 he16 (Nat.le_refl _)).wide (Nat.le_refl _) (he16).size) ((slRep.old ha4 he16 (Nat.le_refl _)).wide (Nat.le_refl _) (he16).size))) ?_
    rintro _ w35 ⟨v37, rfl, hs38, hx36⟩
    have he41 : Ext w w35 := Ext.trans he16 hx36
    have hb8 := Box.ext hb8 hx36
    have hz42 := (hx36).size
    have hbd40 := ownR.blk hs38
    refine TL.yld rfl rfl (yld_move rfl rfl) ?_
    refine TL.yld rfl rfl (yld_extract rfl rfl rfl) ?_
    refine TL.yld rfl rfl (yld_extract rfl rfl rfl) ?_
    refine TL.yld rfl rfl (yld_assign rfl rfl) ?_
    refine TL.yld rfl rfl (yld_assign rfl rfl) ?_
    refine TL.done ?_
    refine NX.seq ?_
    refine WC.seq ?_
    refine WC.seq ?_
    refine WC.region ?_
    refine TL.yld rfl rfl (yld_move rfl rfl) ?_
    refine TL.yld rfl rfl (yld_not rfl rfl) ?_
    refine TL.done ?_
    refine NX.seq ?_
    refine WC.cond rfl ?_ ?_
    · intro hc43
      replace hF := bif_t hc43 hF
      refine WC.seq ?_
      refine WC.region ?_
      refine TL.eff rfl rfl (eff_buildSlice (c := (cInt .i64)) (xs := ([] : List Int)) (S := (Iv 0 0)) (uss := []) (out := []) rfl Try.underlying45 in_2 rfl rfl (fillL_all [] rfl rfl rfl) rfl rfl rfl rfl (one_rep (uss := []) (show reps _ _ _ _ _ from trivial) rfl) (fun k h => by have := h.2; omega) rfl) ?_
      rintro v44 w45 ⟨g46, hv47, hg48, hz49, hx50, hs51⟩
      have he52 : Ext w w45 := Ext.trans he41 hx50
      have hb8 := Box.ext hb8 hx50
      have hs38 := ownR.ext hs38 hx50
      have hz53 := (hx50).size
      have hlo54 : w.heap.size ≤ g46 := by rw [hg48]; exact (he41).size
      have hbd55 := bd_of hv47
      clear hv47
      refine TL.yld rfl rfl (yld_assign rfl rfl) ?_
      refine TL.yld rfl rfl (yld_assign rfl rfl) ?_
      refine TL.done ?_
      refine NX.seq ?_
      refine WC.ret' ?_
      refine NX.then_r ?_
      obtain rfl := Option.some.inj hF
      exact NX.end (rs := [.tmp 2, .tmp 3]) (vs := [v44, .int .i64 7]) rfl ⟨rfl, rfl, trivial⟩ ⟨_, rfl, _, rfl, ownR.base hs51 (by omega), he52⟩
    · intro hc57
      replace hF := bif_f hc57 hF
      refine WC.skip' ?_
      refine NX.seq ?_
      refine WC.seq ?_
      refine WC.region ?_
      refine TL.yld rfl rfl (yld_move rfl rfl) ?_
      refine TL.yld rfl rfl (yld_assign rfl rfl) ?_
      refine TL.yld rfl rfl (yld_assign rfl rfl) ?_
      refine TL.done ?_
      refine NX.seq ?_
      refine WC.ret' ?_
      obtain rfl := Option.some.inj hF
      exact NX.end (rs := [.tmp 2, .tmp 3]) (vs := [v37, .int .i64 0]) rfl ⟨rfl, rfl, trivial⟩ ⟨_, rfl, _, rfl, ownR.base hs38 (by omega), he41⟩

-- loop.example/g00861/spec.LatchDepartures
def F_spec_LatchDepartures (n : Nat) (a0_s : S_LatchSystem) : Option ((List Int) × Int) := (Option.bind (F_spec_l18Code n a0_s) fun r12 => (some (r12.1, r12.2)))
set_option maxHeartbeats 4000000 in
theorem W_spec_LatchDepartures {n : Nat} {a0_s : S_LatchSystem} {r : (List Int) × Int} {w : World} {v1 : Value} {v3 : Value} (hF : F_spec_LatchDepartures n a0_s = some r) (ha2 : slRep C_Latch w (Iv 0 w.heap.size) a0_s.Latches v1) (ha4 : slRep C_LatchLink w (Iv 0 w.heap.size) a0_s.Links v3) :
    Calls Try.prog 39 [.agg #[v1, v3]].toArray w (Ret fun u w2 => ∃ v0_0, u = .tuple #[v0_0, .int .i64 r.2] ∧ ownR (cInt .i64) w2 w.heap.size (Iv 0 0) 2 r.1 v0_0 ∧ Ext w w2) := by
  refine calls_of Try.func39 rfl Try.ntmps39 ?_
  have he0 : Ext w w := Ext.refl w
  unfold F_spec_LatchDepartures at hF
  refine WC.seq ?_
  refine WC.region ?_
  refine TL.eff rfl rfl (eff_box rfl rfl) ?_
  rintro _ w6 ⟨b5, rfl, hn7⟩
  obtain ⟨hn7e, hn7s, hn7x, hb8⟩ := hn7
  have hb8 : Box w6 b5 [v1, v3] 38 := hb8
  have he10 : Ext w w6 := Ext.trans he0 hn7x
  have hz11 := (hn7x).size
  have hlo9 : w.heap.size ≤ b5 := by rw [hn7e]; exact (he0).size
  refine TL.yld rfl rfl (yld_assign rfl rfl) ?_
  refine TL.yld rfl rfl (yld_assign rfl rfl) ?_
  refine TL.done ?_
  refine NX.seq ?_
  refine WC.seq ?_
  refine WC.region ?_
  refine TL.yld rfl rfl (yld_loadN (us := [v1, v3]) rfl ag_38 rfl (Box.cells hb8) cn_38) ?_
  obtain ⟨r12, hr13, hF⟩ := bsome hF
  refine TL.eff rfl rfl (eff_call rfl gf_67 rfl (W_spec_l18Code hr13 ((slRep.old ha2 he10 (Nat.le_refl _)).wide (Nat.le_refl _) (he10).size) ((slRep.old ha4 he10 (Nat.le_refl _)).wide (Nat.le_refl _) (he10).size))) ?_
  rintro _ w14 ⟨v16, rfl, hs17, hx15⟩
  have he20 : Ext w w14 := Ext.trans he10 hx15
  have hb8 := Box.ext hb8 hx15
  have hz21 := (hx15).size
  have hbd19 := ownR.blk hs17
  refine TL.yld rfl rfl (yld_extract rfl rfl rfl) ?_
  refine TL.yld rfl rfl (yld_extract rfl rfl rfl) ?_
  refine TL.yld rfl rfl (yld_assign rfl rfl) ?_
  refine TL.yld rfl rfl (yld_assign rfl rfl) ?_
  refine TL.done ?_
  refine NX.seq ?_
  refine WC.ret' ?_
  obtain rfl := Option.some.inj hF
  exact NX.end (rs := [.tmp 2, .tmp 3]) (vs := [v16, .int .i64 r12.2]) rfl ⟨rfl, rfl, trivial⟩ ⟨_, rfl, _, rfl, ownR.base hs17 (by omega), he20⟩

-- loop.example/g00861/laws.markLatchS
def F_laws_markLatchS_L1 (k0 : Int → Int → (List S_Latch) → Option (Int × (List S_Latch))) : Nat → Int → Int → (List S_Latch) → Option (Int × (List S_Latch))
  | 0 => fun _ _ _ => none
  | m + 1 => fun i8 i9 l10 => (bif decide (i9 < (l10.length : Int)) then (Option.bind (getI l10 i9) fun x13 => (Option.bind (getI ((l10.set (i9).toNat ((S_Latch.mk i8 x13.Close)))) i9) fun x25 => (F_laws_markLatchS_L1 k0 m (IntKind.wrap IntKind.i64 ((IntKind.wrap IntKind.i64 (i8 + 1)) + 1)) (IntKind.wrap IntKind.i64 (i9 + 1)) ((((l10.set (i9).toNat ((S_Latch.mk i8 x13.Close)))).set (i9).toNat ((S_Latch.mk x25.Open (IntKind.wrap IntKind.i64 (i8 + 1))))))))) else (k0 i8 i9 l10))
theorem F_laws_markLatchS_L1_z (k0 : Int → Int → (List S_Latch) → Option (Int × (List S_Latch))) (i8 : Int) (i9 : Int) (l10 : List S_Latch) : F_laws_markLatchS_L1 k0 0 i8 i9 l10 = none := rfl
theorem F_laws_markLatchS_L1_s (m : Nat) (k0 : Int → Int → (List S_Latch) → Option (Int × (List S_Latch))) (i8 : Int) (i9 : Int) (l10 : List S_Latch) : F_laws_markLatchS_L1 k0 (m + 1) i8 i9 l10 = (bif decide (i9 < (l10.length : Int)) then (Option.bind (getI l10 i9) fun x13 => (Option.bind (getI ((l10.set (i9).toNat ((S_Latch.mk i8 x13.Close)))) i9) fun x25 => (F_laws_markLatchS_L1 k0 m (IntKind.wrap IntKind.i64 ((IntKind.wrap IntKind.i64 (i8 + 1)) + 1)) (IntKind.wrap IntKind.i64 (i9 + 1)) ((((l10.set (i9).toNat ((S_Latch.mk i8 x13.Close)))).set (i9).toNat ((S_Latch.mk x25.Open (IntKind.wrap IntKind.i64 (i8 + 1))))))))) else (k0 i8 i9 l10)) := rfl

def F_laws_markLatchS (n : Nat) (a0_a : List S_Latch) (a1_k : Int) : Option (Int × (List S_Latch)) := (F_laws_markLatchS_L1 (fun i8 i9 l10 => (some (i8, l10))) n a1_k 0 a0_a)
set_option maxHeartbeats 4000000 in
theorem W_laws_markLatchS {n : Nat} {a0_a : List S_Latch} {a1_k : Int} {r : Int × (List S_Latch)} {w : World} {v1 : Value} {B3 : Nat} (hF : F_laws_markLatchS n a0_a a1_k = some r) (ha2 : ownR C_Latch w B3 (Iv 0 0) 50 a0_a v1) :
    Calls Try.prog 83 [v1, .int .i64 a1_k].toArray w (Ret fun u w2 => u = .int .i64 r.1 ∧ ownR C_Latch w2 B3 (Iv 0 0) 50 r.2 v1 ∧ But (pO v1) w w2) := by
  refine calls_of Try.func83 rfl Try.ntmps83 ?_
  have he0 : But (pO v1) w w := But.refl _ w
  have hbd5 := ownR.blk ha2
  unfold F_laws_markLatchS at hF
  refine WC.seq ?_
  refine WC.region ?_
  refine TL.yld rfl rfl (yld_assign rfl rfl) ?_
  refine TL.done ?_
  refine NX.seq ?_
  refine WC.seq ?_
  refine WC.seq ?_
  refine WC.region ?_
  refine TL.yld rfl rfl (yld_assign rfl rfl) ?_
  refine TL.done ?_
  refine NX.seq ?_
  refine WC.block ?_
  refine WC.loop (fun m12 a wl => ∃ (i8 : Int) (i9 : Int) (l10 : List S_Latch), Kn 27 [(0, v1), (1, .int .i64 i8), (5, .int .i64 i9)] a ∧ But (pO v1) w wl ∧ w.heap.size ≤ wl.heap.size ∧ ownR C_Latch wl (B3) (Iv 0 0) 50 l10 v1 ∧ F_laws_markLatchS_L1 (fun i8 i9 l10 => (some (i8, l10))) m12 i8 i9 l10 = some r) n ?_ ?_
  · intro a hK; exact ⟨a1_k, 0, a0_a, hK.weaken ⟨rfl, rfl, rfl, trivial⟩, he0, Nat.le_refl _, ha2, hF⟩
  · rintro m12 a w6 ⟨i8, i9, l10, hK, he7, hz13, hs11, hF⟩
    revert hK; revert a; refine (?_ : WC _ _ _ _ _ _)
    cases m12 with
    | zero => rw [F_laws_markLatchS_L1_z] at hF; cases hF
    | succ m12 =>
      rw [F_laws_markLatchS_L1_s] at hF
      refine WC.seq ?_
      refine WC.seq ?_
      refine WC.region ?_
      refine TL.yld rfl rfl (yld_move rfl rfl) ?_
      refine TL.yld rfl rfl (yld_move rfl rfl) ?_
      refine TL.yld rfl rfl (yld_len_own (c := C_Latch) rfl Try.underlying35 rfl hs11) ?_
      refine TL.yld rfl rfl (yld_lss rfl rfl rfl) ?_
      refine TL.done ?_
      refine NX.seq ?_
      refine WC.cond rfl ?_ ?_
      · intro hc14
        replace hF := bif_t hc14 hF
        refine WC.skip' ?_
        refine NX.seq ?_
        refine WC.seq ?_
        refine WC.block ?_
        refine WC.seq ?_
        refine WC.region ?_
        refine TL.yld rfl rfl (yld_move rfl rfl) ?_
        refine TL.yld rfl rfl (yld_move rfl rfl) ?_
        refine TL.yld rfl rfl (yld_move rfl rfl) ?_
        obtain ⟨x15, hy16, hF⟩ := bsome hF
        refine TL.ye rfl rfl (ye_index_own (c := C_Latch) rfl Try.underlying35 cn_50 rfl rfl hs11 hy16) ?_
        rintro _ ⟨g17, us19, rfl, hg18, hr20, hcl21⟩
        have hr20r := hr20
        obtain rfl := C_Latch_open hr20
        refine TL.yld rfl rfl (yld_fieldAddr rfl fo_50_0 rfl) ?_
        refine TL.eff rfl rfl (eff_store_own (c := C_Latch) (us' := [.int .i64 i8, .int .i64 x15.Close]) (y' := (S_Latch.mk i8 x15.Close)) 0 _ rfl rfl rfl hs11 hg18 hy16 rfl cn_2 rfl hr20r hcl21 rfl rfl C_Latch_mk (fun k h => absurd h.2 (Nat.not_lt_zero k))) ?_
        rintro _ w22 ⟨hu23, hs24⟩
        have he25 : But (pO v1) w w22 := But.upd he7 hu23 (Or.inl hg18)
        have hz26 := (hu23).size
        refine TL.done ?_
        refine NX.seq ?_
        refine WC.seq ?_
        refine WC.region ?_
        refine TL.yld rfl rfl (yld_move rfl rfl) ?_
        refine TL.yld rfl rfl (yld_add rfl rfl rfl) ?_
        refine TL.yld rfl rfl (yld_assign rfl rfl) ?_
        refine TL.done ?_
        refine NX.seq ?_
        refine WC.seq ?_
        refine WC.region ?_
        refine TL.yld rfl rfl (yld_move rfl rfl) ?_
        refine TL.yld rfl rfl (yld_move rfl rfl) ?_
        refine TL.yld rfl rfl (yld_move rfl rfl) ?_
        obtain ⟨x27, hy28, hF⟩ := bsome hF
        refine TL.ye rfl rfl (ye_index_own (c := C_Latch) rfl Try.underlying35 cn_50 rfl rfl hs24 hy28) ?_
        rintro _ ⟨g29, us31, rfl, hg30, hr32, hcl33⟩
        have hr32r := hr32
        obtain rfl := C_Latch_open hr32
        refine TL.yld rfl rfl (yld_fieldAddr rfl fo_50_1 rfl) ?_
        refine TL.eff rfl rfl (eff_store_own (c := C_Latch) (us' := [.int .i64 x27.Open, .int .i64 (IntKind.wrap IntKind.i64 (i8 + 1))]) (y' := (S_Latch.mk x27.Open (IntKind.wrap IntKind.i64 (i8 + 1)))) 1 _ rfl rfl rfl hs24 hg30 hy28 rfl cn_2 rfl hr32r hcl33 rfl rfl C_Latch_mk (fun k h => absurd h.2 (Nat.not_lt_zero k))) ?_
        rintro _ w34 ⟨hu35, hs36⟩
        have he37 : But (pO v1) w w34 := But.upd he25 hu35 (Or.inl hg30)
        have hz38 := (hu35).size
        refine TL.done ?_
        refine NX.seq ?_
        refine WC.region ?_
        refine TL.yld rfl rfl (yld_move rfl rfl) ?_
        refine TL.yld rfl rfl (yld_add rfl rfl rfl) ?_
        refine TL.yld rfl rfl (yld_assign rfl rfl) ?_
        refine TL.done ?_
        refine NX.blk_n ?_
        refine NX.seq ?_
        refine WC.region ?_
        refine TL.yld rfl rfl (yld_move rfl rfl) ?_
        refine TL.yld rfl rfl (yld_add rfl rfl rfl) ?_
        refine TL.yld rfl rfl (yld_assign rfl rfl) ?_
        refine TL.done ?_
        refine NX.then_n ?_
        intro a hK; exact ⟨m12, Nat.lt_succ_self m12, (IntKind.wrap IntKind.i64 ((IntKind.wrap IntKind.i64 (i8 + 1)) + 1)), (IntKind.wrap IntKind.i64 (i9 + 1)), ((((l10.set (i9).toNat ((S_Latch.mk i8 x15.Close)))).set (i9).toNat ((S_Latch.mk x27.Open (IntKind.wrap IntKind.i64 (i8 + 1)))))), hK.weaken ⟨rfl, rfl, rfl, trivial⟩, he37, (by omega), hs36, hF⟩
      · intro hc39
        replace hF := bif_f hc39 hF
        refine WC.exit' ?_
        refine NX.then_e ?_
        refine NX.then_e ?_
        refine NX.blk_hit ?_
        refine NX.seq ?_
        refine WC.seq ?_
        refine WC.region ?_
        refine TL.yld rfl rfl (yld_move rfl rfl) ?_
        refine TL.yld rfl rfl (yld_assign rfl rfl) ?_
        refine TL.done ?_
        refine NX.seq ?_
        refine WC.ret' ?_
        obtain rfl := Option.some.inj hF
        exact NX.end (rs := [.tmp 4]) (vs := [.int .i64 i8]) rfl ⟨rfl, trivial⟩ ⟨_, rfl, rfl, hs11, he7⟩

end Go.Proofs.Ytmhmpfckdhiijaa
