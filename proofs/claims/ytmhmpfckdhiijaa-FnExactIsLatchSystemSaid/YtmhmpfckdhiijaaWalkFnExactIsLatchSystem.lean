/- The walks: every function that FnExactIsLatchSystem reaches computes the plain function that is typed beside it; no condition. -/
import Derived.Test.YtmhmpfckdhiijaaProg
import Derived.Test.YtmhmpfckdhiijaaDat
set_option linter.all false
set_option maxRecDepth 20000
namespace Go.Proofs.Ytmhmpfckdhiijaa
open Go Go.RowKit Go.Eng
theorem Try.hm : Try.prog.follows .mixedOrders = true := by kernel_rfl
theorem ag_109 : aggB Try.prog 109 = some true := by kernel_rfl
theorem ag_111 : aggB Try.prog 111 = some true := by kernel_rfl
theorem ag_2 : aggB Try.prog 2 = some false := by kernel_rfl
theorem ag_29 : aggB Try.prog 29 = some false := by kernel_rfl
theorem ag_30 : aggB Try.prog 30 = some false := by kernel_rfl
theorem ag_32 : aggB Try.prog 32 = some true := by kernel_rfl
theorem ag_35 : aggB Try.prog 35 = some false := by kernel_rfl
theorem ag_36 : aggB Try.prog 36 = some false := by kernel_rfl
theorem ag_38 : aggB Try.prog 38 = some true := by kernel_rfl
theorem ag_50 : aggB Try.prog 50 = some true := by kernel_rfl
theorem ag_77 : aggB Try.prog 77 = some true := by kernel_rfl
theorem cn_109 : cellsN Try.prog 109 = some 2 := by kernel_rfl
theorem cn_111 : cellsN Try.prog 111 = some 4 := by kernel_rfl
theorem cn_2 : cellsN Try.prog 2 = some 1 := by kernel_rfl
theorem cn_32 : cellsN Try.prog 32 = some 2 := by kernel_rfl
theorem cn_35 : cellsN Try.prog 35 = some 1 := by kernel_rfl
theorem cn_36 : cellsN Try.prog 36 = some 1 := by kernel_rfl
theorem cn_38 : cellsN Try.prog 38 = some 2 := by kernel_rfl
theorem cn_50 : cellsN Try.prog 50 = some 2 := by kernel_rfl
theorem cn_77 : cellsN Try.prog 77 = some 4 := by kernel_rfl
theorem fo_109_0 : fieldOff Try.prog 109 0 = some 0 := by kernel_rfl
theorem fo_109_1 : fieldOff Try.prog 109 1 = some 1 := by kernel_rfl
theorem fo_111_0 : fieldOff Try.prog 111 0 = some 0 := by kernel_rfl
theorem fo_111_1 : fieldOff Try.prog 111 1 = some 1 := by kernel_rfl
theorem fo_111_2 : fieldOff Try.prog 111 2 = some 2 := by kernel_rfl
theorem fo_111_3 : fieldOff Try.prog 111 3 = some 3 := by kernel_rfl
theorem fo_32_0 : fieldOff Try.prog 32 0 = some 0 := by kernel_rfl
theorem fo_32_1 : fieldOff Try.prog 32 1 = some 1 := by kernel_rfl
theorem fo_38_0 : fieldOff Try.prog 38 0 = some 0 := by kernel_rfl
theorem fo_38_1 : fieldOff Try.prog 38 1 = some 1 := by kernel_rfl
theorem fo_50_0 : fieldOff Try.prog 50 0 = some 0 := by kernel_rfl
theorem fo_50_1 : fieldOff Try.prog 50 1 = some 1 := by kernel_rfl
theorem fo_77_0 : fieldOff Try.prog 77 0 = some 0 := by kernel_rfl
theorem fo_77_1 : fieldOff Try.prog 77 1 = some 1 := by kernel_rfl
theorem fo_77_2 : fieldOff Try.prog 77 2 = some 2 := by kernel_rfl
theorem fo_77_3 : fieldOff Try.prog 77 3 = some 3 := by kernel_rfl
theorem gf_18 : goFn Try.prog 18 = true := by kernel_rfl
theorem gf_19 : goFn Try.prog 19 = true := by kernel_rfl
theorem gf_20 : goFn Try.prog 20 = true := by kernel_rfl
theorem gf_21 : goFn Try.prog 21 = true := by kernel_rfl
theorem gf_22 : goFn Try.prog 22 = true := by kernel_rfl
theorem gf_55 : goFn Try.prog 55 = true := by kernel_rfl
theorem gf_56 : goFn Try.prog 56 = true := by kernel_rfl
theorem gf_57 : goFn Try.prog 57 = true := by kernel_rfl
theorem gf_58 : goFn Try.prog 58 = true := by kernel_rfl
theorem gf_59 : goFn Try.prog 59 = true := by kernel_rfl
theorem gf_60 : goFn Try.prog 60 = true := by kernel_rfl
theorem gf_61 : goFn Try.prog 61 = true := by kernel_rfl
theorem gf_62 : goFn Try.prog 62 = true := by kernel_rfl
theorem gf_63 : goFn Try.prog 63 = true := by kernel_rfl
theorem gf_89 : goFn Try.prog 89 = true := by kernel_rfl
theorem gf_90 : goFn Try.prog 90 = true := by kernel_rfl
theorem gf_91 : goFn Try.prog 91 = true := by kernel_rfl
theorem gf_92 : goFn Try.prog 92 = true := by kernel_rfl
theorem in_50 : infoN Try.prog 50 = some ([.int .i64 0, .int .i64 0], 2, 16) := by kernel_rfl
theorem in_77 : infoN Try.prog 77 = some ([.int .i64 0, .int .i64 0, .int .i64 0, .int .i64 0], 4, 32) := by kernel_rfl
theorem zn_38 : zeroN Try.prog 38 = some [.slice none 0 0, .slice none 0 0] := by kernel_rfl
theorem zn_50 : zeroN Try.prog 50 = some [.int .i64 0, .int .i64 0] := by kernel_rfl
theorem zn_77 : zeroN Try.prog 77 = some [.int .i64 0, .int .i64 0, .int .i64 0, .int .i64 0] := by kernel_rfl
-- loop.example/g00861/laws.szLatchS
def F_laws_szLatchS (n : Nat) (a0_a : List S_Latch) (a1_left : Int) : Option Int := (bif decide (IntKind.wrap IntKind.i64 (a1_left - ((a0_a.length : Int))) < 0) then (some (-1)) else (some (IntKind.wrap IntKind.i64 (a1_left - ((a0_a.length : Int))))))
theorem W_laws_szLatchS {n : Nat} {a0_a : List S_Latch} {a1_left : Int} {r : Int} {w : World} {v1 : Value} (hF : F_laws_szLatchS n a0_a a1_left = some r) (ha2 : slRep C_Latch w (Iv 0 w.heap.size) a0_a v1) :
    Calls Try.prog 55 [v1, .int .i64 a1_left].toArray w (Ret fun u w2 => u = .int .i64 r ∧ Ext w w2) := by
  refine calls_of Try.func55 rfl Try.ntmps55 ?_
  have he0 : Ext w w := Ext.refl w
  unfold F_laws_szLatchS at hF
  refine WC.seq ?_
  refine WC.region ?_
  refine TL.yld rfl rfl (yld_assign rfl rfl) ?_
  refine TL.done ?_
  refine NX.seq ?_
  refine WC.seq ?_
  refine WC.region ?_
  refine TL.yld rfl rfl (yld_move rfl rfl) ?_
  refine TL.yld rfl rfl (yld_move rfl rfl) ?_
  refine TL.yld rfl rfl (ye_len (c := C_Latch) rfl Try.underlying29 rfl (slRep.old ha2 he0 (Nat.le_refl _))) ?_
  refine TL.yld rfl rfl (yld_sub rfl rfl rfl) ?_
  refine TL.yld rfl rfl (yld_assign rfl rfl) ?_
  refine TL.done ?_
  refine NX.seq ?_
  refine WC.seq ?_
  refine WC.seq ?_
  refine WC.region ?_
  refine TL.yld rfl rfl (yld_move rfl rfl) ?_
  refine TL.yld rfl rfl (yld_lss rfl rfl rfl) ?_
  refine TL.done ?_
  refine NX.seq ?_
  refine WC.cond rfl ?_ ?_
  · intro hc3
    replace hF := bif_t hc3 hF
    refine WC.seq ?_
    refine WC.region ?_
    refine TL.yld rfl rfl (yld_assign rfl rfl) ?_
    refine TL.done ?_
    refine NX.seq ?_
    refine WC.ret' ?_
    refine NX.then_r ?_
    obtain rfl := Option.some.inj hF
    exact NX.end (rs := [.tmp 4]) (vs := [.int .i64 (-1)]) rfl ⟨rfl, trivial⟩ ⟨_, rfl, rfl, he0⟩
  · intro hc4
    replace hF := bif_f hc4 hF
    refine WC.skip' ?_
    refine NX.seq ?_
    refine WC.seq ?_
    refine WC.region ?_
    refine TL.yld rfl rfl (yld_move rfl rfl) ?_
    refine TL.yld rfl rfl (yld_assign rfl rfl) ?_
    refine TL.done ?_
    refine NX.seq ?_
    refine WC.ret' ?_
    obtain rfl := Option.some.inj hF
    exact NX.end (rs := [.tmp 4]) (vs := [.int .i64 (IntKind.wrap IntKind.i64 (a1_left - ((a0_a.length : Int))))]) rfl ⟨rfl, trivial⟩ ⟨_, rfl, rfl, he0⟩

-- loop.example/g00861/laws.szLatchLinkS
def F_laws_szLatchLinkS (n : Nat) (a0_a : List S_LatchLink) (a1_left : Int) : Option Int := (bif decide (IntKind.wrap IntKind.i64 (a1_left - ((a0_a.length : Int))) < 0) then (some (-1)) else (some (IntKind.wrap IntKind.i64 (a1_left - ((a0_a.length : Int))))))
theorem W_laws_szLatchLinkS {n : Nat} {a0_a : List S_LatchLink} {a1_left : Int} {r : Int} {w : World} {v1 : Value} (hF : F_laws_szLatchLinkS n a0_a a1_left = some r) (ha2 : slRep C_LatchLink w (Iv 0 w.heap.size) a0_a v1) :
    Calls Try.prog 56 [v1, .int .i64 a1_left].toArray w (Ret fun u w2 => u = .int .i64 r ∧ Ext w w2) := by
  refine calls_of Try.func56 rfl Try.ntmps56 ?_
  have he0 : Ext w w := Ext.refl w
  unfold F_laws_szLatchLinkS at hF
  refine WC.seq ?_
  refine WC.region ?_
  refine TL.yld rfl rfl (yld_assign rfl rfl) ?_
  refine TL.done ?_
  refine NX.seq ?_
  refine WC.seq ?_
  refine WC.region ?_
  refine TL.yld rfl rfl (yld_move rfl rfl) ?_
  refine TL.yld rfl rfl (yld_move rfl rfl) ?_
  refine TL.yld rfl rfl (ye_len (c := C_LatchLink) rfl Try.underlying30 rfl (slRep.old ha2 he0 (Nat.le_refl _))) ?_
  refine TL.yld rfl rfl (yld_sub rfl rfl rfl) ?_
  refine TL.yld rfl rfl (yld_assign rfl rfl) ?_
  refine TL.done ?_
  refine NX.seq ?_
  refine WC.seq ?_
  refine WC.seq ?_
  refine WC.region ?_
  refine TL.yld rfl rfl (yld_move rfl rfl) ?_
  refine TL.yld rfl rfl (yld_lss rfl rfl rfl) ?_
  refine TL.done ?_
  refine NX.seq ?_
  refine WC.cond rfl ?_ ?_
  · intro hc3
    replace hF := bif_t hc3 hF
    refine WC.seq ?_
    refine WC.region ?_
    refine TL.yld rfl rfl (yld_assign rfl rfl) ?_
    refine TL.done ?_
    refine NX.seq ?_
    refine WC.ret' ?_
    refine NX.then_r ?_
    obtain rfl := Option.some.inj hF
    exact NX.end (rs := [.tmp 4]) (vs := [.int .i64 (-1)]) rfl ⟨rfl, trivial⟩ ⟨_, rfl, rfl, he0⟩
  · intro hc4
    replace hF := bif_f hc4 hF
    refine WC.skip' ?_
    refine NX.seq ?_
    refine WC.seq ?_
    refine WC.region ?_
    refine TL.yld rfl rfl (yld_move rfl rfl) ?_
    refine TL.yld rfl rfl (yld_assign rfl rfl) ?_
    refine TL.done ?_
    refine NX.seq ?_
    refine WC.ret' ?_
    obtain rfl := Option.some.inj hF
    exact NX.end (rs := [.tmp 4]) (vs := [.int .i64 (IntKind.wrap IntKind.i64 (a1_left - ((a0_a.length : Int))))]) rfl ⟨rfl, trivial⟩ ⟨_, rfl, rfl, he0⟩

-- loop.example/g00861/laws.szLatchSystem
def F_laws_szLatchSystem (n : Nat) (a0_a : S_LatchSystem) (a1_left : Int) : Option Int := (Option.bind (F_laws_szLatchS n a0_a.Latches a1_left) fun r12 => (bif decide (r12 < 0) then (some (-1)) else (Option.bind (F_laws_szLatchLinkS n a0_a.Links r12) fun r21 => (bif decide (r21 < 0) then (some (-1)) else (some r21)))))
theorem W_laws_szLatchSystem {n : Nat} {a0_a : S_LatchSystem} {a1_left : Int} {r : Int} {w : World} {v1 : Value} {v3 : Value} (hF : F_laws_szLatchSystem n a0_a a1_left = some r) (ha2 : slRep C_Latch w (Iv 0 w.heap.size) a0_a.Latches v1) (ha4 : slRep C_LatchLink w (Iv 0 w.heap.size) a0_a.Links v3) :
    Calls Try.prog 18 [.agg #[v1, v3], .int .i64 a1_left].toArray w (Ret fun u w2 => u = .int .i64 r ∧ Ext w w2) := by
  refine calls_of Try.func18 rfl Try.ntmps18 ?_
  have he0 : Ext w w := Ext.refl w
  unfold F_laws_szLatchSystem at hF
  refine WC.seq ?_
  refine WC.region ?_
  refine TL.eff rfl rfl (eff_box rfl rfl) ?_
  rintro _ w6 ⟨b5, rfl, hn7⟩
  obtain ⟨hn7e, hn7s, hn7x, hb8⟩ := hn7
  have hb8 : Box w6 b5 [v1, v3] 32 := hb8
  have he10 : Ext w w6 := Ext.trans he0 hn7x
  have hz11 := (hn7x).size
  have hlo9 : w.heap.size ≤ b5 := by rw [hn7e]; exact (he0).size
  refine TL.yld rfl rfl (yld_assign rfl rfl) ?_
  refine TL.done ?_
  refine NX.seq ?_
  refine WC.seq ?_
  refine WC.region ?_
  refine TL.yld rfl rfl (yld_fieldAddr rfl fo_32_0 rfl) ?_
  refine TL.yld rfl rfl (yld_load1 0 rfl ag_29 rfl (Box.cells hb8) rfl rfl) ?_
  refine TL.yld rfl rfl (yld_move rfl rfl) ?_
  obtain ⟨r12, hr13, hF⟩ := bsome hF
  refine TL.eff rfl rfl (eff_call rfl gf_55 rfl (W_laws_szLatchS hr13 ((slRep.old ha2 he10 (Nat.le_refl _)).wide (Nat.le_refl _) (he10).size))) ?_
  rintro _ w14 ⟨rfl, hx15⟩
  have he17 : Ext w w14 := Ext.trans he10 hx15
  have hb8 := Box.ext hb8 hx15
  have hz18 := (hx15).size
  refine TL.yld rfl rfl (yld_assign rfl rfl) ?_
  refine TL.done ?_
  refine NX.seq ?_
  refine WC.seq ?_
  refine WC.seq ?_
  refine WC.region ?_
  refine TL.yld rfl rfl (yld_move rfl rfl) ?_
  refine TL.yld rfl rfl (yld_lss rfl rfl rfl) ?_
  refine TL.done ?_
  refine NX.seq ?_
  refine WC.cond rfl ?_ ?_
  · intro hc19
    replace hF := bif_t hc19 hF
    refine WC.seq ?_
    refine WC.region ?_
    refine TL.yld rfl rfl (yld_assign rfl rfl) ?_
    refine TL.done ?_
    refine NX.seq ?_
    refine WC.ret' ?_
    refine NX.then_r ?_
    obtain rfl := Option.some.inj hF
    exact NX.end (rs := [.tmp 4]) (vs := [.int .i64 (-1)]) rfl ⟨rfl, trivial⟩ ⟨_, rfl, rfl, he17⟩
  · intro hc20
    replace hF := bif_f hc20 hF
    refine WC.skip' ?_
    refine NX.seq ?_
    refine WC.seq ?_
    refine WC.region ?_
    refine TL.yld rfl rfl (yld_fieldAddr rfl fo_32_1 rfl) ?_
    refine TL.yld rfl rfl (yld_load1 1 rfl ag_30 rfl (Box.cells hb8) rfl rfl) ?_
    refine TL.yld rfl rfl (yld_move rfl rfl) ?_
    obtain ⟨r21, hr22, hF⟩ := bsome hF
    refine TL.eff rfl rfl (eff_call rfl gf_56 rfl (W_laws_szLatchLinkS hr22 ((slRep.old ha4 he17 (Nat.le_refl _)).wide (Nat.le_refl _) (he17).size))) ?_
    rintro _ w23 ⟨rfl, hx24⟩
    have he26 : Ext w w23 := Ext.trans he17 hx24
    have hb8 := Box.ext hb8 hx24
    have hz27 := (hx24).size
    refine TL.yld rfl rfl (yld_assign rfl rfl) ?_
    refine TL.done ?_
    refine NX.seq ?_
    refine WC.seq ?_
    refine WC.seq ?_
    refine WC.region ?_
    refine TL.yld rfl rfl (yld_move rfl rfl) ?_
    refine TL.yld rfl rfl (yld_lss rfl rfl rfl) ?_
    refine TL.done ?_
    refine NX.seq ?_
    refine WC.cond rfl ?_ ?_
    · intro hc28
      replace hF := bif_t hc28 hF
      refine WC.seq ?_
      refine WC.region ?_
      refine TL.yld rfl rfl (yld_assign rfl rfl) ?_
      refine TL.done ?_
      refine NX.seq ?_
      refine WC.ret' ?_
      refine NX.then_r ?_
      obtain rfl := Option.some.inj hF
      exact NX.end (rs := [.tmp 4]) (vs := [.int .i64 (-1)]) rfl ⟨rfl, trivial⟩ ⟨_, rfl, rfl, he26⟩
    · intro hc29
      replace hF := bif_f hc29 hF
      refine WC.skip' ?_
      refine NX.seq ?_
      refine WC.seq ?_
      refine WC.region ?_
      refine TL.yld rfl rfl (yld_move rfl rfl) ?_
      refine TL.yld rfl rfl (yld_assign rfl rfl) ?_
      refine TL.done ?_
      refine NX.seq ?_
      refine WC.ret' ?_
      obtain rfl := Option.some.inj hF
      exact NX.end (rs := [.tmp 4]) (vs := [.int .i64 r21]) rfl ⟨rfl, trivial⟩ ⟨_, rfl, rfl, he26⟩

-- loop.example/g00861/spec.l01In
def F_spec_l01In (n : Nat) (a0_n : Int) (a1_low : Int) (a2_high : Int) : Option Bool := (some (((decide (a0_n ≥ a1_low)) && (decide (a0_n ≤ a2_high)))))
theorem W_spec_l01In {n : Nat} {a0_n : Int} {a1_low : Int} {a2_high : Int} {r : Bool} {w : World} (hF : F_spec_l01In n a0_n a1_low a2_high = some r) :
    Calls Try.prog 57 [.int .i64 a0_n, .int .i64 a1_low, .int .i64 a2_high].toArray w (Ret fun u w2 => u = .bool r ∧ Ext w w2) := by
  refine calls_of Try.func57 rfl Try.ntmps57 ?_
  have he0 : Ext w w := Ext.refl w
  unfold F_spec_l01In at hF
  refine WC.seq ?_
  refine WC.region ?_
  refine TL.yld rfl rfl (yld_assign rfl rfl) ?_
  refine TL.done ?_
  refine NX.seq ?_
  refine WC.seq ?_
  refine WC.region ?_
  refine TL.yld rfl rfl (yld_move rfl rfl) ?_
  refine TL.yld rfl rfl (yld_move rfl rfl) ?_
  refine TL.yld rfl rfl (yld_geq rfl rfl rfl) ?_
  refine TL.yld rfl rfl (yld_move rfl rfl) ?_
  refine TL.cut 4 [(14, .bool (((decide (a0_n ≥ a1_low)) && (decide (a0_n ≤ a2_high)))))] (fun w' => Ext w w') ?_ ?_
  · rcases Bool.eq_false_or_eq_true (decide (a0_n ≥ a1_low)) with hg | hg
    ·
      refine TL.gy (j := 3) (t := 10) rfl rfl rfl hg rfl (yld_move rfl rfl) ?_
      refine TL.gy (j := 3) (t := 10) rfl rfl rfl hg rfl (yld_move rfl rfl) ?_
      refine TL.gy (j := 3) (t := 10) rfl rfl rfl hg rfl (yld_leq rfl rfl rfl) ?_
      refine TL.yld rfl rfl (yld_and_t rfl rfl hg rfl) ?_
      exact TL.nil fun a h => ⟨h.weaken ⟨rfl, trivial⟩, Ext.refl _⟩
    ·
      refine TL.gn (j := 3) (t := 10) rfl rfl rfl hg rfl rfl rfl ?_
      refine TL.gn (j := 3) (t := 10) rfl rfl rfl hg rfl rfl rfl ?_
      refine TL.gn (j := 3) (t := 10) rfl rfl rfl hg rfl rfl rfl ?_
      refine TL.yld rfl rfl (yld_and_f (b2 := decide (a0_n ≤ a2_high)) rfl rfl hg rfl) ?_
      exact TL.nil fun a h => ⟨h.weaken ⟨rfl, trivial⟩, Ext.refl _⟩
  intro w1 hx2
  have he3 : Ext w w1 := Ext.trans he0 hx2
  have hz4 := (hx2).size
  refine TL.yld rfl rfl (yld_assign rfl rfl) ?_
  refine TL.done ?_
  refine NX.seq ?_
  refine WC.ret' ?_
  obtain rfl := Option.some.inj hF
  exact NX.end (rs := [.tmp 6]) (vs := [.bool (((decide (a0_n ≥ a1_low)) && (decide (a0_n ≤ a2_high))))]) rfl ⟨rfl, trivial⟩ ⟨_, rfl, rfl, he3⟩

-- loop.example/g00861/spec.IsLatchSystem
def F_spec_IsLatchSystem_L2 (n : Nat) (a0_s : S_LatchSystem) (k2 : Int → Option Bool) : Nat → Int → Option Bool
  | 0 => fun _ => none
  | m + 1 => fun i18 => (bif decide (i18 < (a0_s.Links.length : Int)) then (Option.bind (getI a0_s.Links i18) fun x21 => (Option.bind (F_spec_l01In n x21.From 0 (IntKind.wrap IntKind.i64 (((a0_s.Latches.length : Int)) - 1))) fun r40 => (Option.bind (bif (!r40) then (some true) else (Option.bind (F_spec_l01In n x21.To 0 (IntKind.wrap IntKind.i64 (((a0_s.Latches.length : Int)) - 1))) fun r47 => (some (!r47)))) fun c47 => (Option.bind (bif c47 then (some true) else (Option.bind (F_spec_l01In n x21.Delay 0 100000) fun r60 => (some (!r60)))) fun c60 => (Option.bind (bif c60 then (some true) else (Option.bind (F_spec_l01In n x21.Shift 0 100000) fun r73 => (some (!r73)))) fun c73 => (bif c73 then (some false) else (F_spec_IsLatchSystem_L2 n a0_s k2 m (IntKind.wrap IntKind.i64 (i18 + 1))))))))) else (k2 i18))
theorem F_spec_IsLatchSystem_L2_z (n : Nat) (a0_s : S_LatchSystem) (k2 : Int → Option Bool) (i18 : Int) : F_spec_IsLatchSystem_L2 n a0_s k2 0 i18 = none := rfl
theorem F_spec_IsLatchSystem_L2_s (m : Nat) (n : Nat) (a0_s : S_LatchSystem) (k2 : Int → Option Bool) (i18 : Int) : F_spec_IsLatchSystem_L2 n a0_s k2 (m + 1) i18 = (bif decide (i18 < (a0_s.Links.length : Int)) then (Option.bind (getI a0_s.Links i18) fun x21 => (Option.bind (F_spec_l01In n x21.From 0 (IntKind.wrap IntKind.i64 (((a0_s.Latches.length : Int)) - 1))) fun r40 => (Option.bind (bif (!r40) then (some true) else (Option.bind (F_spec_l01In n x21.To 0 (IntKind.wrap IntKind.i64 (((a0_s.Latches.length : Int)) - 1))) fun r47 => (some (!r47)))) fun c47 => (Option.bind (bif c47 then (some true) else (Option.bind (F_spec_l01In n x21.Delay 0 100000) fun r60 => (some (!r60)))) fun c60 => (Option.bind (bif c60 then (some true) else (Option.bind (F_spec_l01In n x21.Shift 0 100000) fun r73 => (some (!r73)))) fun c73 => (bif c73 then (some false) else (F_spec_IsLatchSystem_L2 n a0_s k2 m (IntKind.wrap IntKind.i64 (i18 + 1))))))))) else (k2 i18)) := rfl

def F_spec_IsLatchSystem_L1 (n : Nat) (a0_s : S_LatchSystem) (k0 : Int → Option Bool) : Nat → Int → Option Bool
  | 0 => fun _ => none
  | m + 1 => fun i14 => (bif decide (i14 < (a0_s.Latches.length : Int)) then (Option.bind (getI a0_s.Latches i14) fun x17 => (Option.bind (F_spec_l01In n x17.Open 0 100000) fun r36 => (Option.bind (bif (!r36) then (some true) else (Option.bind (F_spec_l01In n x17.Close x17.Open 100000) fun r43 => (some (!r43)))) fun c43 => (bif c43 then (some false) else (F_spec_IsLatchSystem_L1 n a0_s k0 m (IntKind.wrap IntKind.i64 (i14 + 1))))))) else (k0 i14))
theorem F_spec_IsLatchSystem_L1_z (n : Nat) (a0_s : S_LatchSystem) (k0 : Int → Option Bool) (i14 : Int) : F_spec_IsLatchSystem_L1 n a0_s k0 0 i14 = none := rfl
theorem F_spec_IsLatchSystem_L1_s (m : Nat) (n : Nat) (a0_s : S_LatchSystem) (k0 : Int → Option Bool) (i14 : Int) : F_spec_IsLatchSystem_L1 n a0_s k0 (m + 1) i14 = (bif decide (i14 < (a0_s.Latches.length : Int)) then (Option.bind (getI a0_s.Latches i14) fun x17 => (Option.bind (F_spec_l01In n x17.Open 0 100000) fun r36 => (Option.bind (bif (!r36) then (some true) else (Option.bind (F_spec_l01In n x17.Close x17.Open 100000) fun r43 => (some (!r43)))) fun c43 => (bif c43 then (some false) else (F_spec_IsLatchSystem_L1 n a0_s k0 m (IntKind.wrap IntKind.i64 (i14 + 1))))))) else (k0 i14)) := rfl

def F_spec_IsLatchSystem (n : Nat) (a0_s : S_LatchSystem) : Option Bool := (F_spec_IsLatchSystem_L1 n a0_s (fun i14 => (F_spec_IsLatchSystem_L2 n a0_s (fun i18 => (some (((decide ((a0_s.Latches.length : Int) ≤ 12)) && (decide ((a0_s.Links.length : Int) ≤ 60)))))) n 0)) n 0)
theorem W_spec_IsLatchSystem {n : Nat} {a0_s : S_LatchSystem} {r : Bool} {w : World} {v1 : Value} {v3 : Value} (hF : F_spec_IsLatchSystem n a0_s = some r) (ha2 : slRep C_Latch w (Iv 0 w.heap.size) a0_s.Latches v1) (ha4 : slRep C_LatchLink w (Iv 0 w.heap.size) a0_s.Links v3) :
    Calls Try.prog 19 [.agg #[v1, v3]].toArray w (Ret fun u w2 => u = .bool r ∧ Ext w w2) := by
  refine calls_of Try.func19 rfl Try.ntmps19 ?_
  have he0 : Ext w w := Ext.refl w
  unfold F_spec_IsLatchSystem at hF
  refine WC.seq ?_
  refine WC.region ?_
  refine TL.eff rfl rfl (eff_box rfl rfl) ?_
  rintro _ w6 ⟨b5, rfl, hn7⟩
  obtain ⟨hn7e, hn7s, hn7x, hb8⟩ := hn7
  have hb8 : Box w6 b5 [v1, v3] 38 := hb8
  have he10 : Ext w w6 := Ext.trans he0 hn7x
  have hz11 := (hn7x).size
  have hlo9 : w.heap.size ≤ b5 := by rw [hn7e]; exact (he0).size
  refine TL.yld rfl rfl (yld_assign rfl rfl) ?_
  refine TL.done ?_
  refine NX.seq ?_
  refine WC.seq ?_
  refine WC.region ?_
  refine TL.yld rfl rfl (yld_fieldAddr rfl fo_38_0 rfl) ?_
  refine TL.yld rfl rfl (yld_load1 0 rfl ag_35 rfl (Box.cells hb8) rfl rfl) ?_
  refine TL.yld rfl rfl (ye_len (c := C_Latch) rfl Try.underlying35 rfl (slRep.old ha2 he10 (Nat.le_refl _))) ?_
  refine TL.yld rfl rfl (yld_assign rfl rfl) ?_
  refine TL.done ?_
  refine NX.seq ?_
  refine WC.seq ?_
  refine WC.seq ?_
  refine WC.region ?_
  refine TL.yld rfl rfl (yld_assign rfl rfl) ?_
  refine TL.done ?_
  refine NX.seq ?_
  refine WC.block ?_
  refine WC.loop (fun m16 a wl => ∃ (i14 : Int), Kn 83 [(1, .pointer (some ⟨b5, 0, none⟩)), (3, .int .i64 ((a0_s.Latches.length : Int))), (4, .int .i64 i14)] a ∧ Ext w wl ∧ w6.heap.size ≤ wl.heap.size ∧ Box wl b5 [v1, v3] 38 ∧ F_spec_IsLatchSystem_L1 n a0_s (fun i14 => (F_spec_IsLatchSystem_L2 n a0_s (fun i18 => (some (((decide ((a0_s.Latches.length : Int) ≤ 12)) && (decide ((a0_s.Links.length : Int) ≤ 60)))))) n 0)) m16 i14 = some r) n ?_ ?_
  · intro a hK; exact ⟨0, hK.weaken ⟨rfl, rfl, rfl, trivial⟩, he10, Nat.le_refl _, hb8, hF⟩
  · rintro m16 a w12 ⟨i14, hK, he13, hz17, hb15, hF⟩
    revert hK; revert a; refine (?_ : WC _ _ _ _ _ _)
    cases m16 with
    | zero => rw [F_spec_IsLatchSystem_L1_z] at hF; cases hF
    | succ m16 =>
      rw [F_spec_IsLatchSystem_L1_s] at hF
      refine WC.seq ?_
      refine WC.seq ?_
      refine WC.region ?_
      refine TL.yld rfl rfl (yld_move rfl rfl) ?_
      refine TL.yld rfl rfl (yld_fieldAddr rfl fo_38_0 rfl) ?_
      refine TL.yld rfl rfl (yld_load1 0 rfl ag_35 rfl (Box.cells hb15) rfl rfl) ?_
      refine TL.yld rfl rfl (ye_len (c := C_Latch) rfl Try.underlying35 rfl (slRep.old ha2 he13 (Nat.le_refl _))) ?_
      refine TL.yld rfl rfl (yld_lss rfl rfl rfl) ?_
      refine TL.done ?_
      refine NX.seq ?_
      refine WC.cond rfl ?_ ?_
      · intro hc18
        replace hF := bif_t hc18 hF
        refine WC.skip' ?_
        refine NX.seq ?_
        refine WC.seq ?_
        refine WC.block ?_
        refine WC.seq ?_
        refine WC.region ?_
        refine TL.yld rfl rfl (yld_fieldAddr rfl fo_38_0 rfl) ?_
        refine TL.yld rfl rfl (yld_load1 0 rfl ag_35 rfl (Box.cells hb15) rfl rfl) ?_
        refine TL.yld rfl rfl (yld_move rfl rfl) ?_
        obtain ⟨x19, hy20, hF⟩ := bsome hF
        refine TL.ye rfl rfl (ye_index (c := C_Latch) rfl Try.underlying35 cn_50 rfl rfl (slRep.old ha2 he13 (Nat.le_refl _)) hy20) ?_
        rintro _ ⟨b21, o22, us23, rfl, -, hr24, hcl25⟩
        obtain rfl := C_Latch_open hr24
        refine TL.yld rfl rfl (yld_loadN (us := [.int .i64 x19.Open, .int .i64 x19.Close]) rfl ag_50 rfl hcl25 cn_50) ?_
        refine TL.eff rfl rfl (eff_alloc rfl zn_50) ?_
        rintro _ w27 ⟨b26, rfl, hn28⟩
        obtain ⟨hn28e, hn28s, hn28x, hb29⟩ := hn28
        have hb29 : Box w27 b26 [.int .i64 0, .int .i64 0] 50 := hb29
        have he31 : Ext w w27 := Ext.trans he13 hn28x
        have hb15 := Box.ext hb15 hn28x
        have hz32 := (hn28x).size
        have hlo30 : w.heap.size ≤ b26 := by rw [hn28e]; exact (he13).size
        refine TL.eff rfl rfl (eff_store rfl rfl rfl hb29 cn_50 rfl rfl) ?_
        rintro _ w33 ⟨hu34, hb35⟩
        have he36 : Ext w w33 := Below.trans he31 (Upd.below hu34 hlo30)
        have hb15 := Box.upd hb15 hu34 (by omega)
        have hz37 := (hu34).size
        have hb29 : Box w33 b26 [.int .i64 x19.Open, .int .i64 x19.Close] 50 := hb35
        refine TL.done ?_
        refine NX.seq ?_
        refine WC.seq ?_
        refine WC.region ?_
        refine TL.yld rfl rfl (yld_fieldAddr rfl fo_50_0 rfl) ?_
        refine TL.yld rfl rfl (yld_load1 0 rfl ag_2 rfl (Box.cells hb29) rfl rfl) ?_
        obtain ⟨r38, hr39, hF⟩ := bsome hF
        refine TL.eff rfl rfl (eff_call rfl gf_57 rfl (W_spec_l01In hr39)) ?_
        rintro _ w40 ⟨rfl, hx41⟩
        have he43 : Ext w w40 := Ext.trans he36 hx41
        have hb15 := Box.ext hb15 hx41
        have hb29 := Box.ext hb29 hx41
        have hz44 := (hx41).size
        refine TL.yld rfl rfl (yld_not rfl rfl) ?_
        refine TL.yld rfl rfl (yld_move rfl rfl) ?_
        obtain ⟨c45, hb46, hF⟩ := bsome hF
        refine TL.cut 7 [(1, .pointer (some ⟨b5, 0, none⟩)), (3, .int .i64 ((a0_s.Latches.length : Int))), (4, .int .i64 i14), (34, .bool c45)] (fun w' => Ext w40 w') ?_ ?_
        · rcases Bool.eq_false_or_eq_true (!r38) with hg | hg
          ·
            rw [hg] at hb46; simp only [cond_true, cond_false] at hb46
            refine TL.gn (j := 4) (t := 27) rfl rfl rfl hg rfl rfl rfl ?_
            refine TL.gn (j := 4) (t := 27) rfl rfl rfl hg rfl rfl rfl ?_
            refine TL.gn (j := 4) (t := 27) rfl rfl rfl hg rfl rfl rfl ?_
            refine TL.gn (j := 4) (t := 27) rfl rfl rfl hg rfl rfl rfl ?_
            refine TL.gn (j := 4) (t := 27) rfl rfl rfl hg rfl rfl rfl ?_
            refine TL.gn (j := 4) (t := 27) rfl rfl rfl hg rfl rfl rfl ?_
            obtain rfl := Option.some.inj hb46
            refine TL.yld rfl rfl (yld_pick_t rfl rfl hg rfl) ?_
            exact TL.nil fun a h => ⟨h.weaken ⟨rfl, rfl, rfl, rfl, trivial⟩, Ext.refl _⟩
          ·
            rw [hg] at hb46; simp only [cond_true, cond_false] at hb46
            replace hF := hb46
            refine TL.gy (j := 4) (t := 27) rfl rfl rfl hg rfl (yld_fieldAddr rfl fo_50_1 rfl) ?_
            refine TL.gy (j := 4) (t := 27) rfl rfl rfl hg rfl (yld_load1 1 rfl ag_2 rfl (Box.cells hb29) rfl rfl) ?_
            refine TL.gy (j := 4) (t := 27) rfl rfl rfl hg rfl (yld_fieldAddr rfl fo_50_0 rfl) ?_
            refine TL.gy (j := 4) (t := 27) rfl rfl rfl hg rfl (yld_load1 0 rfl ag_2 rfl (Box.cells hb29) rfl rfl) ?_
            obtain ⟨r47, hr48, hF⟩ := bsome hF
            refine TL.ge (j := 4) (t := 27) rfl rfl rfl hg rfl (eff_call rfl gf_57 rfl (W_spec_l01In hr48)) ?_
            rintro _ w49 ⟨rfl, hx50⟩
            have he52 : Ext w w49 := Ext.trans he43 hx50
            have hb15 := Box.ext hb15 hx50
            have hb29 := Box.ext hb29 hx50
            have hz53 := (hx50).size
            refine TL.gy (j := 4) (t := 27) rfl rfl rfl hg rfl (yld_not rfl rfl) ?_
            obtain rfl := Option.some.inj hF
            refine TL.yld rfl rfl (yld_pick_f rfl rfl hg rfl) ?_
            exact TL.nil fun a h => ⟨h.weaken ⟨rfl, rfl, rfl, rfl, trivial⟩, hx50⟩
        intro w54 hx55
        have he56 : Ext w w54 := Ext.trans he43 hx55
        have hb15 := Box.ext hb15 hx55
        have hb29 := Box.ext hb29 hx55
        have hz57 := (hx55).size
        refine TL.done ?_
        refine NX.seq ?_
        refine WC.cond rfl ?_ ?_
        · intro hc58
          replace hF := bif_t hc58 hF
          refine WC.seq ?_
          refine WC.region ?_
          refine TL.yld rfl rfl (yld_assign rfl rfl) ?_
          refine TL.done ?_
          refine NX.seq ?_
          refine WC.ret' ?_
          refine NX.blk_r ?_
          refine NX.then_r ?_
          refine NX.then_r ?_
          refine NX.blk_r ?_
          refine NX.then_r ?_
          obtain rfl := Option.some.inj hF
          exact NX.end (rs := [.tmp 2]) (vs := [.bool false]) rfl ⟨rfl, trivial⟩ ⟨_, rfl, rfl, he56⟩
        · intro hc59
          replace hF := bif_f hc59 hF
          refine WC.skip' ?_
          refine NX.blk_n ?_
          refine NX.seq ?_
          refine WC.region ?_
          refine TL.yld rfl rfl (yld_move rfl rfl) ?_
          refine TL.yld rfl rfl (yld_add rfl rfl rfl) ?_
          refine TL.yld rfl rfl (yld_assign rfl rfl) ?_
          refine TL.done ?_
          refine NX.then_n ?_
          intro a hK; exact ⟨m16, Nat.lt_succ_self m16, (IntKind.wrap IntKind.i64 (i14 + 1)), hK.weaken ⟨rfl, rfl, rfl, trivial⟩, he56, (by omega), hb15, hF⟩
      · intro hc60
        replace hF := bif_f hc60 hF
        refine WC.exit' ?_
        refine NX.then_e ?_
        refine NX.then_e ?_
        refine NX.blk_hit ?_
        refine NX.seq ?_
        refine WC.seq ?_
        refine WC.seq ?_
        refine WC.region ?_
        refine TL.yld rfl rfl (yld_assign rfl rfl) ?_
        refine TL.done ?_
        refine NX.seq ?_
        refine WC.block ?_
        refine WC.loop (fun m65 a wl => ∃ (i63 : Int), Kn 83 [(1, .pointer (some ⟨b5, 0, none⟩)), (3, .int .i64 ((a0_s.Latches.length : Int))), (6, .int .i64 i63)] a ∧ Ext w wl ∧ w12.heap.size ≤ wl.heap.size ∧ Box wl b5 [v1, v3] 38 ∧ F_spec_IsLatchSystem_L2 n a0_s (fun i63 => (some (((decide ((a0_s.Latches.length : Int) ≤ 12)) && (decide ((a0_s.Links.length : Int) ≤ 60)))))) m65 i63 = some r) n ?_ ?_
        · intro a hK; exact ⟨0, hK.weaken ⟨rfl, rfl, rfl, trivial⟩, he13, Nat.le_refl _, hb15, hF⟩
        · rintro m65 a w61 ⟨i63, hK, he62, hz66, hb64, hF⟩
          revert hK; revert a; refine (?_ : WC _ _ _ _ _ _)
          cases m65 with
          | zero => rw [F_spec_IsLatchSystem_L2_z] at hF; cases hF
          | succ m65 =>
            rw [F_spec_IsLatchSystem_L2_s] at hF
            refine WC.seq ?_
            refine WC.seq ?_
            refine WC.region ?_
            refine TL.yld rfl rfl (yld_move rfl rfl) ?_
            refine TL.yld rfl rfl (yld_fieldAddr rfl fo_38_1 rfl) ?_
            refine TL.yld rfl rfl (yld_load1 1 rfl ag_36 rfl (Box.cells hb64) rfl rfl) ?_
            refine TL.yld rfl rfl (ye_len (c := C_LatchLink) rfl Try.underlying36 rfl (slRep.old ha4 he62 (Nat.le_refl _))) ?_
            refine TL.yld rfl rfl (yld_lss rfl rfl rfl) ?_
            refine TL.done ?_
            refine NX.seq ?_
            refine WC.cond rfl ?_ ?_
            · intro hc67
              replace hF := bif_t hc67 hF
              refine WC.skip' ?_
              refine NX.seq ?_
              refine WC.seq ?_
              refine WC.block ?_
              refine WC.seq ?_
              refine WC.region ?_
              refine TL.yld rfl rfl (yld_fieldAddr rfl fo_38_1 rfl) ?_
              refine TL.yld rfl rfl (yld_load1 1 rfl ag_36 rfl (Box.cells hb64) rfl rfl) ?_
              refine TL.yld rfl rfl (yld_move rfl rfl) ?_
              obtain ⟨x68, hy69, hF⟩ := bsome hF
              refine TL.ye rfl rfl (ye_index (c := C_LatchLink) rfl Try.underlying36 cn_77 rfl rfl (slRep.old ha4 he62 (Nat.le_refl _)) hy69) ?_
              rintro _ ⟨b70, o71, us72, rfl, -, hr73, hcl74⟩
              obtain rfl := C_LatchLink_open hr73
              refine TL.yld rfl rfl (yld_loadN (us := [.int .i64 x68.From, .int .i64 x68.To, .int .i64 x68.Delay, .int .i64 x68.Shift]) rfl ag_77 rfl hcl74 cn_77) ?_
              refine TL.eff rfl rfl (eff_alloc rfl zn_77) ?_
              rintro _ w76 ⟨b75, rfl, hn77⟩
              obtain ⟨hn77e, hn77s, hn77x, hb78⟩ := hn77
              have hb78 : Box w76 b75 [.int .i64 0, .int .i64 0, .int .i64 0, .int .i64 0] 77 := hb78
              have he80 : Ext w w76 := Ext.trans he62 hn77x
              have hb64 := Box.ext hb64 hn77x
              have hz81 := (hn77x).size
              have hlo79 : w.heap.size ≤ b75 := by rw [hn77e]; exact (he62).size
              refine TL.eff rfl rfl (eff_store rfl rfl rfl hb78 cn_77 rfl rfl) ?_
              rintro _ w82 ⟨hu83, hb84⟩
              have he85 : Ext w w82 := Below.trans he80 (Upd.below hu83 hlo79)
              have hb64 := Box.upd hb64 hu83 (by omega)
              have hz86 := (hu83).size
              have hb78 : Box w82 b75 [.int .i64 x68.From, .int .i64 x68.To, .int .i64 x68.Delay, .int .i64 x68.Shift] 77 := hb84
              refine TL.done ?_
              refine NX.seq ?_
              refine WC.seq ?_
              refine WC.region ?_
              refine TL.yld rfl rfl (yld_fieldAddr rfl fo_77_0 rfl) ?_
              refine TL.yld rfl rfl (yld_load1 0 rfl ag_2 rfl (Box.cells hb78) rfl rfl) ?_
              refine TL.yld rfl rfl (yld_move rfl rfl) ?_
              refine TL.yld rfl rfl (yld_sub rfl rfl rfl) ?_
              obtain ⟨r87, hr88, hF⟩ := bsome hF
              refine TL.eff rfl rfl (eff_call rfl gf_57 rfl (W_spec_l01In hr88)) ?_
              rintro _ w89 ⟨rfl, hx90⟩
              have he92 : Ext w w89 := Ext.trans he85 hx90
              have hb64 := Box.ext hb64 hx90
              have hb78 := Box.ext hb78 hx90
              have hz93 := (hx90).size
              refine TL.yld rfl rfl (yld_not rfl rfl) ?_
              refine TL.yld rfl rfl (yld_move rfl rfl) ?_
              obtain ⟨c94, hb95, hF⟩ := bsome hF
              refine TL.cut 7 [(1, .pointer (some ⟨b5, 0, none⟩)), (3, .int .i64 ((a0_s.Latches.length : Int))), (6, .int .i64 i63), (7, .pointer (some ⟨b75, 0, none⟩)), (60, .bool c94)] (fun w' => Ext w89 w') ?_ ?_
              · rcases Bool.eq_false_or_eq_true (!r87) with hg | hg
                ·
                  rw [hg] at hb95; simp only [cond_true, cond_false] at hb95
                  refine TL.gn (j := 6) (t := 53) rfl rfl rfl hg rfl rfl rfl ?_
                  refine TL.gn (j := 6) (t := 53) rfl rfl rfl hg rfl rfl rfl ?_
                  refine TL.gn (j := 6) (t := 53) rfl rfl rfl hg rfl rfl rfl ?_
                  refine TL.gn (j := 6) (t := 53) rfl rfl rfl hg rfl rfl rfl ?_
                  refine TL.gn (j := 6) (t := 53) rfl rfl rfl hg rfl rfl rfl ?_
                  refine TL.gn (j := 6) (t := 53) rfl rfl rfl hg rfl rfl rfl ?_
                  obtain rfl := Option.some.inj hb95
                  refine TL.yld rfl rfl (yld_pick_t rfl rfl hg rfl) ?_
                  exact TL.nil fun a h => ⟨h.weaken ⟨rfl, rfl, rfl, rfl, rfl, trivial⟩, Ext.refl _⟩
                ·
                  rw [hg] at hb95; simp only [cond_true, cond_false] at hb95
                  replace hF := hb95
                  refine TL.gy (j := 6) (t := 53) rfl rfl rfl hg rfl (yld_fieldAddr rfl fo_77_1 rfl) ?_
                  refine TL.gy (j := 6) (t := 53) rfl rfl rfl hg rfl (yld_load1 1 rfl ag_2 rfl (Box.cells hb78) rfl rfl) ?_
                  refine TL.gy (j := 6) (t := 53) rfl rfl rfl hg rfl (yld_move rfl rfl) ?_
                  refine TL.gy (j := 6) (t := 53) rfl rfl rfl hg rfl (yld_sub rfl rfl rfl) ?_
                  obtain ⟨r96, hr97, hF⟩ := bsome hF
                  refine TL.ge (j := 6) (t := 53) rfl rfl rfl hg rfl (eff_call rfl gf_57 rfl (W_spec_l01In hr97)) ?_
                  rintro _ w98 ⟨rfl, hx99⟩
                  have he101 : Ext w w98 := Ext.trans he92 hx99
                  have hb64 := Box.ext hb64 hx99
                  have hb78 := Box.ext hb78 hx99
                  have hz102 := (hx99).size
                  refine TL.gy (j := 6) (t := 53) rfl rfl rfl hg rfl (yld_not rfl rfl) ?_
                  obtain rfl := Option.some.inj hF
                  refine TL.yld rfl rfl (yld_pick_f rfl rfl hg rfl) ?_
                  exact TL.nil fun a h => ⟨h.weaken ⟨rfl, rfl, rfl, rfl, rfl, trivial⟩, hx99⟩
              intro w103 hx104
              have he105 : Ext w w103 := Ext.trans he92 hx104
              have hb64 := Box.ext hb64 hx104
              have hb78 := Box.ext hb78 hx104
              have hz106 := (hx104).size
              refine TL.yld rfl rfl (yld_move rfl rfl) ?_
              obtain ⟨c107, hb108, hF⟩ := bsome hF
              refine TL.cut 5 [(1, .pointer (some ⟨b5, 0, none⟩)), (3, .int .i64 ((a0_s.Latches.length : Int))), (6, .int .i64 i63), (7, .pointer (some ⟨b75, 0, none⟩)), (66, .bool c107)] (fun w' => Ext w103 w') ?_ ?_
              · rcases Bool.eq_false_or_eq_true c94 with hg | hg
                ·
                  rw [hg] at hb108; simp only [cond_true, cond_false] at hb108
                  refine TL.gn (j := 14) (t := 61) rfl rfl rfl hg rfl rfl rfl ?_
                  refine TL.gn (j := 14) (t := 61) rfl rfl rfl hg rfl rfl rfl ?_
                  refine TL.gn (j := 14) (t := 61) rfl rfl rfl hg rfl rfl rfl ?_
                  refine TL.gn (j := 14) (t := 61) rfl rfl rfl hg rfl rfl rfl ?_
                  obtain rfl := Option.some.inj hb108
                  refine TL.yld rfl rfl (yld_pick_t rfl rfl hg rfl) ?_
                  exact TL.nil fun a h => ⟨h.weaken ⟨rfl, rfl, rfl, rfl, rfl, trivial⟩, Ext.refl _⟩
                ·
                  rw [hg] at hb108; simp only [cond_true, cond_false] at hb108
                  replace hF := hb108
                  refine TL.gy (j := 14) (t := 61) rfl rfl rfl hg rfl (yld_fieldAddr rfl fo_77_2 rfl) ?_
                  refine TL.gy (j := 14) (t := 61) rfl rfl rfl hg rfl (yld_load1 2 rfl ag_2 rfl (Box.cells hb78) rfl rfl) ?_
                  obtain ⟨r109, hr110, hF⟩ := bsome hF
                  refine TL.ge (j := 14) (t := 61) rfl rfl rfl hg rfl (eff_call rfl gf_57 rfl (W_spec_l01In hr110)) ?_
                  rintro _ w111 ⟨rfl, hx112⟩
                  have he114 : Ext w w111 := Ext.trans he105 hx112
                  have hb64 := Box.ext hb64 hx112
                  have hb78 := Box.ext hb78 hx112
                  have hz115 := (hx112).size
                  refine TL.gy (j := 14) (t := 61) rfl rfl rfl hg rfl (yld_not rfl rfl) ?_
                  obtain rfl := Option.some.inj hF
                  refine TL.yld rfl rfl (yld_pick_f rfl rfl hg rfl) ?_
                  exact TL.nil fun a h => ⟨h.weaken ⟨rfl, rfl, rfl, rfl, rfl, trivial⟩, hx112⟩
              intro w116 hx117
              have he118 : Ext w w116 := Ext.trans he105 hx117
              have hb64 := Box.ext hb64 hx117
              have hb78 := Box.ext hb78 hx117
              have hz119 := (hx117).size
              refine TL.yld rfl rfl (yld_move rfl rfl) ?_
              obtain ⟨c120, hb121, hF⟩ := bsome hF
              refine TL.cut 5 [(1, .pointer (some ⟨b5, 0, none⟩)), (3, .int .i64 ((a0_s.Latches.length : Int))), (6, .int .i64 i63), (72, .bool c120)] (fun w' => Ext w116 w') ?_ ?_
              · rcases Bool.eq_false_or_eq_true c107 with hg | hg
                ·
                  rw [hg] at hb121; simp only [cond_true, cond_false] at hb121
                  refine TL.gn (j := 20) (t := 67) rfl rfl rfl hg rfl rfl rfl ?_
                  refine TL.gn (j := 20) (t := 67) rfl rfl rfl hg rfl rfl rfl ?_
                  refine TL.gn (j := 20) (t := 67) rfl rfl rfl hg rfl rfl rfl ?_
                  refine TL.gn (j := 20) (t := 67) rfl rfl rfl hg rfl rfl rfl ?_
                  obtain rfl := Option.some.inj hb121
                  refine TL.yld rfl rfl (yld_pick_t rfl rfl hg rfl) ?_
                  exact TL.nil fun a h => ⟨h.weaken ⟨rfl, rfl, rfl, rfl, trivial⟩, Ext.refl _⟩
                ·
                  rw [hg] at hb121; simp only [cond_true, cond_false] at hb121
                  replace hF := hb121
                  refine TL.gy (j := 20) (t := 67) rfl rfl rfl hg rfl (yld_fieldAddr rfl fo_77_3 rfl) ?_
                  refine TL.gy (j := 20) (t := 67) rfl rfl rfl hg rfl (yld_load1 3 rfl ag_2 rfl (Box.cells hb78) rfl rfl) ?_
                  obtain ⟨r122, hr123, hF⟩ := bsome hF
                  refine TL.ge (j := 20) (t := 67) rfl rfl rfl hg rfl (eff_call rfl gf_57 rfl (W_spec_l01In hr123)) ?_
                  rintro _ w124 ⟨rfl, hx125⟩
                  have he127 : Ext w w124 := Ext.trans he118 hx125
                  have hb64 := Box.ext hb64 hx125
                  have hb78 := Box.ext hb78 hx125
                  have hz128 := (hx125).size
                  refine TL.gy (j := 20) (t := 67) rfl rfl rfl hg rfl (yld_not rfl rfl) ?_
                  obtain rfl := Option.some.inj hF
                  refine TL.yld rfl rfl (yld_pick_f rfl rfl hg rfl) ?_
                  exact TL.nil fun a h => ⟨h.weaken ⟨rfl, rfl, rfl, rfl, trivial⟩, hx125⟩
              intro w129 hx130
              have he131 : Ext w w129 := Ext.trans he118 hx130
              have hb64 := Box.ext hb64 hx130
              have hb78 := Box.ext hb78 hx130
              have hz132 := (hx130).size
              refine TL.done ?_
              refine NX.seq ?_
              refine WC.cond rfl ?_ ?_
              · intro hc133
                replace hF := bif_t hc133 hF
                refine WC.seq ?_
                refine WC.region ?_
                refine TL.yld rfl rfl (yld_assign rfl rfl) ?_
                refine TL.done ?_
                refine NX.seq ?_
                refine WC.ret' ?_
                refine NX.blk_r ?_
                refine NX.then_r ?_
                refine NX.then_r ?_
                refine NX.blk_r ?_
                refine NX.then_r ?_
                obtain rfl := Option.some.inj hF
                exact NX.end (rs := [.tmp 2]) (vs := [.bool false]) rfl ⟨rfl, trivial⟩ ⟨_, rfl, rfl, he131⟩
              · intro hc134
                replace hF := bif_f hc134 hF
                refine WC.skip' ?_
                refine NX.blk_n ?_
                refine NX.seq ?_
                refine WC.region ?_
                refine TL.yld rfl rfl (yld_move rfl rfl) ?_
                refine TL.yld rfl rfl (yld_add rfl rfl rfl) ?_
                refine TL.yld rfl rfl (yld_assign rfl rfl) ?_
                refine TL.done ?_
                refine NX.then_n ?_
                intro a hK; exact ⟨m65, Nat.lt_succ_self m65, (IntKind.wrap IntKind.i64 (i63 + 1)), hK.weaken ⟨rfl, rfl, rfl, trivial⟩, he131, (by omega), hb64, hF⟩
            · intro hc135
              replace hF := bif_f hc135 hF
              refine WC.exit' ?_
              refine NX.then_e ?_
              refine NX.then_e ?_
              refine NX.blk_hit ?_
              refine NX.seq ?_
              refine WC.seq ?_
              refine WC.region ?_
              refine TL.yld rfl rfl (yld_fieldAddr rfl fo_38_0 rfl) ?_
              refine TL.yld rfl rfl (yld_load1 0 rfl ag_35 rfl (Box.cells hb64) rfl rfl) ?_
              refine TL.yld rfl rfl (ye_len (c := C_Latch) rfl Try.underlying35 rfl (slRep.old ha2 he62 (Nat.le_refl _))) ?_
              refine TL.yld rfl rfl (yld_leq rfl rfl rfl) ?_
              refine TL.yld rfl rfl (yld_move rfl rfl) ?_
              refine TL.cut 5 [(82, .bool (((decide ((a0_s.Latches.length : Int) ≤ 12)) && (decide ((a0_s.Links.length : Int) ≤ 60)))))] (fun w' => Ext w61 w') ?_ ?_
              · rcases Bool.eq_false_or_eq_true (decide ((a0_s.Latches.length : Int) ≤ 12)) with hg | hg
                ·
                  refine TL.gy (j := 4) (t := 77) rfl rfl rfl hg rfl (yld_fieldAddr rfl fo_38_1 rfl) ?_
                  refine TL.gy (j := 4) (t := 77) rfl rfl rfl hg rfl (yld_load1 1 rfl ag_36 rfl (Box.cells hb64) rfl rfl) ?_
                  refine TL.gy (j := 4) (t := 77) rfl rfl rfl hg rfl (ye_len (c := C_LatchLink) rfl Try.underlying36 rfl (slRep.old ha4 he62 (Nat.le_refl _))) ?_
                  refine TL.gy (j := 4) (t := 77) rfl rfl rfl hg rfl (yld_leq rfl rfl rfl) ?_
                  refine TL.yld rfl rfl (yld_and_t rfl rfl hg rfl) ?_
                  exact TL.nil fun a h => ⟨h.weaken ⟨rfl, trivial⟩, Ext.refl _⟩
                ·
                  refine TL.gn (j := 4) (t := 77) rfl rfl rfl hg rfl rfl rfl ?_
                  refine TL.gn (j := 4) (t := 77) rfl rfl rfl hg rfl rfl rfl ?_
                  refine TL.gn (j := 4) (t := 77) rfl rfl rfl hg rfl rfl rfl ?_
                  refine TL.gn (j := 4) (t := 77) rfl rfl rfl hg rfl rfl rfl ?_
                  refine TL.yld rfl rfl (yld_and_f (b2 := decide ((a0_s.Links.length : Int) ≤ 60)) rfl rfl hg rfl) ?_
                  exact TL.nil fun a h => ⟨h.weaken ⟨rfl, trivial⟩, Ext.refl _⟩
              intro w136 hx137
              have he138 : Ext w w136 := Ext.trans he62 hx137
              have hb64 := Box.ext hb64 hx137
              have hz139 := (hx137).size
              refine TL.yld rfl rfl (yld_assign rfl rfl) ?_
              refine TL.done ?_
              refine NX.seq ?_
              refine WC.ret' ?_
              obtain rfl := Option.some.inj hF
              exact NX.end (rs := [.tmp 2]) (vs := [.bool (((decide ((a0_s.Latches.length : Int) ≤ 12)) && (decide ((a0_s.Links.length : Int) ≤ 60))))]) rfl ⟨rfl, trivial⟩ ⟨_, rfl, rfl, he138⟩

-- loop.example/g00861/laws.toLatch
def F_laws_toLatch (n : Nat) (a0_a : S_Latch) : Option S_Latch := (some a0_a)
theorem W_laws_toLatch {n : Nat} {a0_a : S_Latch} {r : S_Latch} {w : World} (hF : F_laws_toLatch n a0_a = some r) :
    Calls Try.prog 89 [.agg #[.int .i64 a0_a.Open, .int .i64 a0_a.Close]].toArray w (Ret fun u w2 => (∃ us, u = .agg us.toArray ∧ C_Latch.rep w2 (Iv w.heap.size w2.heap.size) r us) ∧ Ext w w2) := by
  refine calls_of Try.func89 rfl Try.ntmps89 ?_
  have he0 : Ext w w := Ext.refl w
  unfold F_laws_toLatch at hF
  refine WC.seq ?_
  refine WC.region ?_
  refine TL.eff rfl rfl (eff_box rfl rfl) ?_
  rintro _ w2 ⟨b1, rfl, hn3⟩
  obtain ⟨hn3e, hn3s, hn3x, hb4⟩ := hn3
  have hb4 : Box w2 b1 [.int .i64 a0_a.Open, .int .i64 a0_a.Close] 109 := hb4
  have he6 : Ext w w2 := Ext.trans he0 hn3x
  have hz7 := (hn3x).size
  have hlo5 : w.heap.size ≤ b1 := by rw [hn3e]; exact (he0).size
  refine TL.eff rfl rfl (eff_alloc rfl zn_50) ?_
  rintro _ w9 ⟨b8, rfl, hn10⟩
  obtain ⟨hn10e, hn10s, hn10x, hb11⟩ := hn10
  have hb11 : Box w9 b8 [.int .i64 0, .int .i64 0] 50 := hb11
  have he13 : Ext w w9 := Ext.trans he6 hn10x
  have hb4 := Box.ext hb4 hn10x
  have hz14 := (hn10x).size
  have hlo12 : w.heap.size ≤ b8 := by rw [hn10e]; exact (he6).size
  refine TL.done ?_
  refine NX.seq ?_
  refine WC.seq ?_
  refine WC.region ?_
  refine TL.eff rfl rfl (eff_alloc rfl zn_50) ?_
  rintro _ w16 ⟨b15, rfl, hn17⟩
  obtain ⟨hn17e, hn17s, hn17x, hb18⟩ := hn17
  have hb18 : Box w16 b15 [.int .i64 0, .int .i64 0] 50 := hb18
  have he20 : Ext w w16 := Ext.trans he13 hn17x
  have hb4 := Box.ext hb4 hn17x
  have hb11 := Box.ext hb11 hn17x
  have hz21 := (hn17x).size
  have hlo19 : w.heap.size ≤ b15 := by rw [hn17e]; exact (he13).size
  refine TL.done ?_
  refine NX.seq ?_
  refine WC.seq ?_
  refine WC.region ?_
  refine TL.yld rfl rfl (yld_fieldAddr rfl fo_109_0 rfl) ?_
  refine TL.yld rfl rfl (yld_load1 0 rfl ag_2 rfl (Box.cells hb4) rfl rfl) ?_
  refine TL.yld rfl rfl (yld_fieldAddr rfl fo_50_0 rfl) ?_
  refine TL.eff rfl rfl (eff_store rfl rfl rfl hb18 cn_2 rfl rfl) ?_
  rintro _ w22 ⟨hu23, hb24⟩
  have he25 : Ext w w22 := Below.trans he20 (Upd.below hu23 hlo19)
  have hb4 := Box.upd hb4 hu23 (by omega)
  have hb11 := Box.upd hb11 hu23 (by omega)
  have hz26 := (hu23).size
  have hb18 : Box w22 b15 [.int .i64 a0_a.Open, .int .i64 0] 50 := hb24
  refine TL.done ?_
  refine NX.seq ?_
  refine WC.seq ?_
  refine WC.region ?_
  refine TL.yld rfl rfl (yld_fieldAddr rfl fo_109_1 rfl) ?_
  refine TL.yld rfl rfl (yld_load1 1 rfl ag_2 rfl (Box.cells hb4) rfl rfl) ?_
  refine TL.yld rfl rfl (yld_fieldAddr rfl fo_50_1 rfl) ?_
  refine TL.eff rfl rfl (eff_store rfl rfl rfl hb18 cn_2 rfl rfl) ?_
  rintro _ w27 ⟨hu28, hb29⟩
  have he30 : Ext w w27 := Below.trans he25 (Upd.below hu28 hlo19)
  have hb4 := Box.upd hb4 hu28 (by omega)
  have hb11 := Box.upd hb11 hu28 (by omega)
  have hz31 := (hu28).size
  have hb18 : Box w27 b15 [.int .i64 a0_a.Open, .int .i64 a0_a.Close] 50 := hb29
  refine TL.done ?_
  refine NX.seq ?_
  refine WC.seq ?_
  refine WC.region ?_
  refine TL.yld rfl rfl (yld_loadN (us := [.int .i64 a0_a.Open, .int .i64 a0_a.Close]) rfl ag_50 rfl (Box.cells hb18) cn_50) ?_
  refine TL.eff rfl rfl (eff_store rfl rfl rfl hb11 cn_50 rfl rfl) ?_
  rintro _ w32 ⟨hu33, hb34⟩
  have he35 : Ext w w32 := Below.trans he30 (Upd.below hu33 hlo12)
  have hb4 := Box.upd hb4 hu33 (by omega)
  have hb18 := Box.upd hb18 hu33 (by omega)
  have hz36 := (hu33).size
  have hb11 : Box w32 b8 [.int .i64 a0_a.Open, .int .i64 a0_a.Close] 50 := hb34
  refine TL.done ?_
  refine NX.seq ?_
  refine WC.ret' ?_
  obtain rfl := Option.some.inj hF
  exact NX.end (rs := [.cell 2 50]) (vs := [.agg #[.int .i64 a0_a.Open, .int .i64 a0_a.Close]]) rfl ⟨⟨b8, rfl, box_load ag_50 cn_50 hb11⟩, trivial⟩ ⟨_, rfl, ⟨_, rfl, (C_Latch_mk)⟩, he35⟩

-- loop.example/g00861/laws.toLatchS
def F_laws_toLatchS_L1 (n : Nat) (a0_a : List S_Latch) (k0 : Int → (List S_Latch) → Option (List S_Latch)) : Nat → Int → (List S_Latch) → Option (List S_Latch)
  | 0 => fun _ _ => none
  | m + 1 => fun i20 l21 => (bif decide (i20 < (a0_a.length : Int)) then (Option.bind (getI a0_a i20) fun x24 => (Option.bind (F_laws_toLatch n x24) fun r31 => (Option.bind (getI l21 i20) fun x40 => (F_laws_toLatchS_L1 n a0_a k0 m (IntKind.wrap IntKind.i64 (i20 + 1)) ((l21.set (i20).toNat r31)))))) else (k0 i20 l21))
theorem F_laws_toLatchS_L1_z (n : Nat) (a0_a : List S_Latch) (k0 : Int → (List S_Latch) → Option (List S_Latch)) (i20 : Int) (l21 : List S_Latch) : F_laws_toLatchS_L1 n a0_a k0 0 i20 l21 = none := rfl
theorem F_laws_toLatchS_L1_s (m : Nat) (n : Nat) (a0_a : List S_Latch) (k0 : Int → (List S_Latch) → Option (List S_Latch)) (i20 : Int) (l21 : List S_Latch) : F_laws_toLatchS_L1 n a0_a k0 (m + 1) i20 l21 = (bif decide (i20 < (a0_a.length : Int)) then (Option.bind (getI a0_a i20) fun x24 => (Option.bind (F_laws_toLatch n x24) fun r31 => (Option.bind (getI l21 i20) fun x40 => (F_laws_toLatchS_L1 n a0_a k0 m (IntKind.wrap IntKind.i64 (i20 + 1)) ((l21.set (i20).toNat r31)))))) else (k0 i20 l21)) := rfl

def F_laws_toLatchS (n : Nat) (a0_a : List S_Latch) : Option (List S_Latch) := (Option.bind (mkN ((a0_a.length : Int)) 16) fun n3 => (F_laws_toLatchS_L1 n a0_a (fun i20 l21 => (some l21)) n 0 (List.replicate n3 ((S_Latch.mk 0 0)))))
theorem W_laws_toLatchS {n : Nat} {a0_a : List S_Latch} {r : List S_Latch} {w : World} {v1 : Value} (hF : F_laws_toLatchS n a0_a = some r) (ha2 : slRep C_Latch w (Iv 0 w.heap.size) a0_a v1) :
    Calls Try.prog 58 [v1].toArray w (Ret fun u w2 => slRep C_Latch w2 (Iv w.heap.size w2.heap.size) r u ∧ Ext w w2) := by
  refine calls_of Try.func58 rfl Try.ntmps58 ?_
  have he0 : Ext w w := Ext.refl w
  unfold F_laws_toLatchS at hF
  refine WC.seq ?_
  refine WC.region ?_
  refine TL.yld rfl rfl (yld_assign rfl rfl) ?_
  refine TL.done ?_
  refine NX.seq ?_
  refine WC.seq ?_
  refine WC.region ?_
  refine TL.yld rfl rfl (yld_move rfl rfl) ?_
  refine TL.yld rfl rfl (ye_len (c := C_Latch) rfl Try.underlying29 rfl (slRep.old ha2 he0 (Nat.le_refl _))) ?_
  obtain ⟨n3, hk4, hF⟩ := bsome hF
  refine TL.eff rfl rfl (eff_make (c := C_Latch) (z := (S_Latch.mk 0 0)) rfl Try.underlying35 in_50 rfl rfl rfl hk4 rfl rfl (fun _ => C_Latch_mk)) ?_
  rintro v5 w6 ⟨g7, hv8, hg9, hz10, hx11, hs12⟩
  have he13 : Ext w w6 := Ext.trans he0 hx11
  have hz14 := (hx11).size
  have hlo15 : w.heap.size ≤ g7 := by rw [hg9]; exact (he0).size
  have hbd16 := bd_of hv8
  clear hv8
  refine TL.yld rfl rfl (yld_assign rfl rfl) ?_
  refine TL.done ?_
  refine NX.seq ?_
  refine WC.seq ?_
  refine WC.seq ?_
  refine WC.region ?_
  refine TL.yld rfl rfl (yld_assign rfl rfl) ?_
  refine TL.done ?_
  refine NX.seq ?_
  refine WC.block ?_
  refine WC.loop (fun m23 a wl => ∃ (i20 : Int) (l21 : List S_Latch), Kn 23 [(0, v1), (3, v5), (4, .int .i64 i20)] a ∧ Ext w wl ∧ w6.heap.size ≤ wl.heap.size ∧ ownR C_Latch wl (g7) (Iv 0 0) 50 l21 v5 ∧ F_laws_toLatchS_L1 n a0_a (fun i20 l21 => (some l21)) m23 i20 l21 = some r) n ?_ ?_
  · intro a hK; exact ⟨0, (List.replicate n3 ((S_Latch.mk 0 0))), hK.weaken ⟨rfl, rfl, rfl, trivial⟩, he13, Nat.le_refl _, hs12, hF⟩
  · rintro m23 a w18 ⟨i20, l21, hK, he19, hz24, hs22, hF⟩
    revert hK; revert a; refine (?_ : WC _ _ _ _ _ _)
    cases m23 with
    | zero => rw [F_laws_toLatchS_L1_z] at hF; cases hF
    | succ m23 =>
      rw [F_laws_toLatchS_L1_s] at hF
      refine WC.seq ?_
      refine WC.seq ?_
      refine WC.region ?_
      refine TL.yld rfl rfl (yld_move rfl rfl) ?_
      refine TL.yld rfl rfl (yld_move rfl rfl) ?_
      refine TL.yld rfl rfl (ye_len (c := C_Latch) rfl Try.underlying29 rfl (slRep.old ha2 he19 (Nat.le_refl _))) ?_
      refine TL.yld rfl rfl (yld_lss rfl rfl rfl) ?_
      refine TL.done ?_
      refine NX.seq ?_
      refine WC.cond rfl ?_ ?_
      · intro hc25
        replace hF := bif_t hc25 hF
        refine WC.skip' ?_
        refine NX.seq ?_
        refine WC.seq ?_
        refine WC.block ?_
        refine WC.region ?_
        refine TL.yld rfl rfl (yld_move rfl rfl) ?_
        refine TL.yld rfl rfl (yld_move rfl rfl) ?_
        refine TL.yld rfl rfl (yld_move rfl rfl) ?_
        refine TL.yld rfl rfl (yld_move rfl rfl) ?_
        obtain ⟨x26, hy27, hF⟩ := bsome hF
        refine TL.ye rfl rfl (ye_index (c := C_Latch) rfl Try.underlying29 cn_109 rfl rfl (slRep.old ha2 he19 (Nat.le_refl _)) hy27) ?_
        rintro _ ⟨b28, o29, us30, rfl, -, hr31, hcl32⟩
        obtain rfl := C_Latch_open hr31
        refine TL.yld rfl rfl (yld_loadN (us := [.int .i64 x26.Open, .int .i64 x26.Close]) rfl ag_109 rfl hcl32 cn_109) ?_
        obtain ⟨r33, hr34, hF⟩ := bsome hF
        refine TL.eff rfl rfl (eff_call rfl gf_89 rfl (W_laws_toLatch hr34)) ?_
        rintro _ w35 ⟨⟨us38, rfl, hr39⟩, hx36⟩
        have he40 : Ext w w35 := Ext.trans he19 hx36
        have hs22 := ownR.ext hs22 hx36
        have hz41 := (hx36).size
        obtain rfl := C_Latch_open hr39
        obtain ⟨x42, hy43, hF⟩ := bsome hF
        refine TL.ye rfl rfl (ye_index_own (c := C_Latch) rfl Try.underlying35 cn_50 rfl rfl hs22 hy43) ?_
        rintro _ ⟨g44, us46, rfl, hg45, hr47, hcl48⟩
        have hr47r := hr47
        obtain rfl := C_Latch_open hr47
        refine TL.eff rfl rfl (eff_store_own (c := C_Latch) (us' := [.int .i64 r33.Open, .int .i64 r33.Close]) (y' := r33) 0 _ rfl rfl rfl hs22 hg45 hy43 rfl cn_50 rfl hr47r hcl48 rfl rfl C_Latch_mk (fun k h => absurd h.2 (Nat.not_lt_zero k))) ?_
        rintro _ w49 ⟨hu50, hs51⟩
        have he52 : Ext w w49 := Below.trans he40 (Upd.below hu50 (by have := hbd16 _ hg45; omega))
        have hz53 := (hu50).size
        refine TL.done ?_
        refine NX.blk_n ?_
        refine NX.seq ?_
        refine WC.region ?_
        refine TL.yld rfl rfl (yld_move rfl rfl) ?_
        refine TL.yld rfl rfl (yld_add rfl rfl rfl) ?_
        refine TL.yld rfl rfl (yld_assign rfl rfl) ?_
        refine TL.done ?_
        refine NX.then_n ?_
        intro a hK; exact ⟨m23, Nat.lt_succ_self m23, (IntKind.wrap IntKind.i64 (i20 + 1)), ((l21.set (i20).toNat r33)), hK.weaken ⟨rfl, rfl, rfl, trivial⟩, he52, (by omega), hs51, hF⟩
      · intro hc54
        replace hF := bif_f hc54 hF
        refine WC.exit' ?_
        refine NX.then_e ?_
        refine NX.then_e ?_
        refine NX.blk_hit ?_
        refine NX.seq ?_
        refine WC.seq ?_
        refine WC.region ?_
        refine TL.yld rfl rfl (yld_move rfl rfl) ?_
        refine TL.yld rfl rfl (yld_assign rfl rfl) ?_
        refine TL.done ?_
        refine NX.seq ?_
        refine WC.ret' ?_
        obtain rfl := Option.some.inj hF
        exact NX.end (rs := [.tmp 2]) (vs := [v5]) rfl ⟨rfl, trivial⟩ ⟨_, rfl, (ownR.slf hs22 (by omega) (Nat.le_refl _)), he19⟩

-- loop.example/g00861/laws.toLatchLink
def F_laws_toLatchLink (n : Nat) (a0_a : S_LatchLink) : Option S_LatchLink := (some a0_a)
theorem W_laws_toLatchLink {n : Nat} {a0_a : S_LatchLink} {r : S_LatchLink} {w : World} (hF : F_laws_toLatchLink n a0_a = some r) :
    Calls Try.prog 90 [.agg #[.int .i64 a0_a.From, .int .i64 a0_a.To, .int .i64 a0_a.Delay, .int .i64 a0_a.Shift]].toArray w (Ret fun u w2 => (∃ us, u = .agg us.toArray ∧ C_LatchLink.rep w2 (Iv w.heap.size w2.heap.size) r us) ∧ Ext w w2) := by
  refine calls_of Try.func90 rfl Try.ntmps90 ?_
  have he0 : Ext w w := Ext.refl w
  unfold F_laws_toLatchLink at hF
  refine WC.seq ?_
  refine WC.region ?_
  refine TL.eff rfl rfl (eff_box rfl rfl) ?_
  rintro _ w2 ⟨b1, rfl, hn3⟩
  obtain ⟨hn3e, hn3s, hn3x, hb4⟩ := hn3
  have hb4 : Box w2 b1 [.int .i64 a0_a.From, .int .i64 a0_a.To, .int .i64 a0_a.Delay, .int .i64 a0_a.Shift] 111 := hb4
  have he6 : Ext w w2 := Ext.trans he0 hn3x
  have hz7 := (hn3x).size
  have hlo5 : w.heap.size ≤ b1 := by rw [hn3e]; exact (he0).size
  refine TL.eff rfl rfl (eff_alloc rfl zn_77) ?_
  rintro _ w9 ⟨b8, rfl, hn10⟩
  obtain ⟨hn10e, hn10s, hn10x, hb11⟩ := hn10
  have hb11 : Box w9 b8 [.int .i64 0, .int .i64 0, .int .i64 0, .int .i64 0] 77 := hb11
  have he13 : Ext w w9 := Ext.trans he6 hn10x
  have hb4 := Box.ext hb4 hn10x
  have hz14 := (hn10x).size
  have hlo12 : w.heap.size ≤ b8 := by rw [hn10e]; exact (he6).size
  refine TL.done ?_
  refine NX.seq ?_
  refine WC.seq ?_
  refine WC.region ?_
  refine TL.eff rfl rfl (eff_alloc rfl zn_77) ?_
  rintro _ w16 ⟨b15, rfl, hn17⟩
  obtain ⟨hn17e, hn17s, hn17x, hb18⟩ := hn17
  have hb18 : Box w16 b15 [.int .i64 0, .int .i64 0, .int .i64 0, .int .i64 0] 77 := hb18
  have he20 : Ext w w16 := Ext.trans he13 hn17x
  have hb4 := Box.ext hb4 hn17x
  have hb11 := Box.ext hb11 hn17x
  have hz21 := (hn17x).size
  have hlo19 : w.heap.size ≤ b15 := by rw [hn17e]; exact (he13).size
  refine TL.done ?_
  refine NX.seq ?_
  refine WC.seq ?_
  refine WC.region ?_
  refine TL.yld rfl rfl (yld_fieldAddr rfl fo_111_0 rfl) ?_
  refine TL.yld rfl rfl (yld_load1 0 rfl ag_2 rfl (Box.cells hb4) rfl rfl) ?_
  refine TL.yld rfl rfl (yld_fieldAddr rfl fo_77_0 rfl) ?_
  refine TL.eff rfl rfl (eff_store rfl rfl rfl hb18 cn_2 rfl rfl) ?_
  rintro _ w22 ⟨hu23, hb24⟩
  have he25 : Ext w w22 := Below.trans he20 (Upd.below hu23 hlo19)
  have hb4 := Box.upd hb4 hu23 (by omega)
  have hb11 := Box.upd hb11 hu23 (by omega)
  have hz26 := (hu23).size
  have hb18 : Box w22 b15 [.int .i64 a0_a.From, .int .i64 0, .int .i64 0, .int .i64 0] 77 := hb24
  refine TL.done ?_
  refine NX.seq ?_
  refine WC.seq ?_
  refine WC.region ?_
  refine TL.yld rfl rfl (yld_fieldAddr rfl fo_111_1 rfl) ?_
  refine TL.yld rfl rfl (yld_load1 1 rfl ag_2 rfl (Box.cells hb4) rfl rfl) ?_
  refine TL.yld rfl rfl (yld_fieldAddr rfl fo_77_1 rfl) ?_
  refine TL.eff rfl rfl (eff_store rfl rfl rfl hb18 cn_2 rfl rfl) ?_
  rintro _ w27 ⟨hu28, hb29⟩
  have he30 : Ext w w27 := Below.trans he25 (Upd.below hu28 hlo19)
  have hb4 := Box.upd hb4 hu28 (by omega)
  have hb11 := Box.upd hb11 hu28 (by omega)
  have hz31 := (hu28).size
  have hb18 : Box w27 b15 [.int .i64 a0_a.From, .int .i64 a0_a.To, .int .i64 0, .int .i64 0] 77 := hb29
  refine TL.done ?_
  refine NX.seq ?_
  refine WC.seq ?_
  refine WC.region ?_
  refine TL.yld rfl rfl (yld_fieldAddr rfl fo_111_2 rfl) ?_
  refine TL.yld rfl rfl (yld_load1 2 rfl ag_2 rfl (Box.cells hb4) rfl rfl) ?_
  refine TL.yld rfl rfl (yld_fieldAddr rfl fo_77_2 rfl) ?_
  refine TL.eff rfl rfl (eff_store rfl rfl rfl hb18 cn_2 rfl rfl) ?_
  rintro _ w32 ⟨hu33, hb34⟩
  have he35 : Ext w w32 := Below.trans he30 (Upd.below hu33 hlo19)
  have hb4 := Box.upd hb4 hu33 (by omega)
  have hb11 := Box.upd hb11 hu33 (by omega)
  have hz36 := (hu33).size
  have hb18 : Box w32 b15 [.int .i64 a0_a.From, .int .i64 a0_a.To, .int .i64 a0_a.Delay, .int .i64 0] 77 := hb34
  refine TL.done ?_
  refine NX.seq ?_
  refine WC.seq ?_
  refine WC.region ?_
  refine TL.yld rfl rfl (yld_fieldAddr rfl fo_111_3 rfl) ?_
  refine TL.yld rfl rfl (yld_load1 3 rfl ag_2 rfl (Box.cells hb4) rfl rfl) ?_
  refine TL.yld rfl rfl (yld_fieldAddr rfl fo_77_3 rfl) ?_
  refine TL.eff rfl rfl (eff_store rfl rfl rfl hb18 cn_2 rfl rfl) ?_
  rintro _ w37 ⟨hu38, hb39⟩
  have he40 : Ext w w37 := Below.trans he35 (Upd.below hu38 hlo19)
  have hb4 := Box.upd hb4 hu38 (by omega)
  have hb11 := Box.upd hb11 hu38 (by omega)
  have hz41 := (hu38).size
  have hb18 : Box w37 b15 [.int .i64 a0_a.From, .int .i64 a0_a.To, .int .i64 a0_a.Delay, .int .i64 a0_a.Shift] 77 := hb39
  refine TL.done ?_
  refine NX.seq ?_
  refine WC.seq ?_
  refine WC.region ?_
  refine TL.yld rfl rfl (yld_loadN (us := [.int .i64 a0_a.From, .int .i64 a0_a.To, .int .i64 a0_a.Delay, .int .i64 a0_a.Shift]) rfl ag_77 rfl (Box.cells hb18) cn_77) ?_
  refine TL.eff rfl rfl (eff_store rfl rfl rfl hb11 cn_77 rfl rfl) ?_
  rintro _ w42 ⟨hu43, hb44⟩
  have he45 : Ext w w42 := Below.trans he40 (Upd.below hu43 hlo12)
  have hb4 := Box.upd hb4 hu43 (by omega)
  have hb18 := Box.upd hb18 hu43 (by omega)
  have hz46 := (hu43).size
  have hb11 : Box w42 b8 [.int .i64 a0_a.From, .int .i64 a0_a.To, .int .i64 a0_a.Delay, .int .i64 a0_a.Shift] 77 := hb44
  refine TL.done ?_
  refine NX.seq ?_
  refine WC.ret' ?_
  obtain rfl := Option.some.inj hF
  exact NX.end (rs := [.cell 2 77]) (vs := [.agg #[.int .i64 a0_a.From, .int .i64 a0_a.To, .int .i64 a0_a.Delay, .int .i64 a0_a.Shift]]) rfl ⟨⟨b8, rfl, box_load ag_77 cn_77 hb11⟩, trivial⟩ ⟨_, rfl, ⟨_, rfl, (C_LatchLink_mk)⟩, he45⟩

-- loop.example/g00861/laws.toLatchLinkS
def F_laws_toLatchLinkS_L1 (n : Nat) (a0_a : List S_LatchLink) (k0 : Int → (List S_LatchLink) → Option (List S_LatchLink)) : Nat → Int → (List S_LatchLink) → Option (List S_LatchLink)
  | 0 => fun _ _ => none
  | m + 1 => fun i20 l21 => (bif decide (i20 < (a0_a.length : Int)) then (Option.bind (getI a0_a i20) fun x24 => (Option.bind (F_laws_toLatchLink n x24) fun r31 => (Option.bind (getI l21 i20) fun x40 => (F_laws_toLatchLinkS_L1 n a0_a k0 m (IntKind.wrap IntKind.i64 (i20 + 1)) ((l21.set (i20).toNat r31)))))) else (k0 i20 l21))
theorem F_laws_toLatchLinkS_L1_z (n : Nat) (a0_a : List S_LatchLink) (k0 : Int → (List S_LatchLink) → Option (List S_LatchLink)) (i20 : Int) (l21 : List S_LatchLink) : F_laws_toLatchLinkS_L1 n a0_a k0 0 i20 l21 = none := rfl
theorem F_laws_toLatchLinkS_L1_s (m : Nat) (n : Nat) (a0_a : List S_LatchLink) (k0 : Int → (List S_LatchLink) → Option (List S_LatchLink)) (i20 : Int) (l21 : List S_LatchLink) : F_laws_toLatchLinkS_L1 n a0_a k0 (m + 1) i20 l21 = (bif decide (i20 < (a0_a.length : Int)) then (Option.bind (getI a0_a i20) fun x24 => (Option.bind (F_laws_toLatchLink n x24) fun r31 => (Option.bind (getI l21 i20) fun x40 => (F_laws_toLatchLinkS_L1 n a0_a k0 m (IntKind.wrap IntKind.i64 (i20 + 1)) ((l21.set (i20).toNat r31)))))) else (k0 i20 l21)) := rfl

def F_laws_toLatchLinkS (n : Nat) (a0_a : List S_LatchLink) : Option (List S_LatchLink) := (Option.bind (mkN ((a0_a.length : Int)) 32) fun n3 => (F_laws_toLatchLinkS_L1 n a0_a (fun i20 l21 => (some l21)) n 0 (List.replicate n3 ((S_LatchLink.mk 0 0 0 0)))))
theorem W_laws_toLatchLinkS {n : Nat} {a0_a : List S_LatchLink} {r : List S_LatchLink} {w : World} {v1 : Value} (hF : F_laws_toLatchLinkS n a0_a = some r) (ha2 : slRep C_LatchLink w (Iv 0 w.heap.size) a0_a v1) :
    Calls Try.prog 59 [v1].toArray w (Ret fun u w2 => slRep C_LatchLink w2 (Iv w.heap.size w2.heap.size) r u ∧ Ext w w2) := by
  refine calls_of Try.func59 rfl Try.ntmps59 ?_
  have he0 : Ext w w := Ext.refl w
  unfold F_laws_toLatchLinkS at hF
  refine WC.seq ?_
  refine WC.region ?_
  refine TL.yld rfl rfl (yld_assign rfl rfl) ?_
  refine TL.done ?_
  refine NX.seq ?_
  refine WC.seq ?_
  refine WC.region ?_
  refine TL.yld rfl rfl (yld_move rfl rfl) ?_
  refine TL.yld rfl rfl (ye_len (c := C_LatchLink) rfl Try.underlying30 rfl (slRep.old ha2 he0 (Nat.le_refl _))) ?_
  obtain ⟨n3, hk4, hF⟩ := bsome hF
  refine TL.eff rfl rfl (eff_make (c := C_LatchLink) (z := (S_LatchLink.mk 0 0 0 0)) rfl Try.underlying36 in_77 rfl rfl rfl hk4 rfl rfl (fun _ => C_LatchLink_mk)) ?_
  rintro v5 w6 ⟨g7, hv8, hg9, hz10, hx11, hs12⟩
  have he13 : Ext w w6 := Ext.trans he0 hx11
  have hz14 := (hx11).size
  have hlo15 : w.heap.size ≤ g7 := by rw [hg9]; exact (he0).size
  have hbd16 := bd_of hv8
  clear hv8
  refine TL.yld rfl rfl (yld_assign rfl rfl) ?_
  refine TL.done ?_
  refine NX.seq ?_
  refine WC.seq ?_
  refine WC.seq ?_
  refine WC.region ?_
  refine TL.yld rfl rfl (yld_assign rfl rfl) ?_
  refine TL.done ?_
  refine NX.seq ?_
  refine WC.block ?_
  refine WC.loop (fun m23 a wl => ∃ (i20 : Int) (l21 : List S_LatchLink), Kn 23 [(0, v1), (3, v5), (4, .int .i64 i20)] a ∧ Ext w wl ∧ w6.heap.size ≤ wl.heap.size ∧ ownR C_LatchLink wl (g7) (Iv 0 0) 77 l21 v5 ∧ F_laws_toLatchLinkS_L1 n a0_a (fun i20 l21 => (some l21)) m23 i20 l21 = some r) n ?_ ?_
  · intro a hK; exact ⟨0, (List.replicate n3 ((S_LatchLink.mk 0 0 0 0))), hK.weaken ⟨rfl, rfl, rfl, trivial⟩, he13, Nat.le_refl _, hs12, hF⟩
  · rintro m23 a w18 ⟨i20, l21, hK, he19, hz24, hs22, hF⟩
    revert hK; revert a; refine (?_ : WC _ _ _ _ _ _)
    cases m23 with
    | zero => rw [F_laws_toLatchLinkS_L1_z] at hF; cases hF
    | succ m23 =>
      rw [F_laws_toLatchLinkS_L1_s] at hF
      refine WC.seq ?_
      refine WC.seq ?_
      refine WC.region ?_
      refine TL.yld rfl rfl (yld_move rfl rfl) ?_
      refine TL.yld rfl rfl (yld_move rfl rfl) ?_
      refine TL.yld rfl rfl (ye_len (c := C_LatchLink) rfl Try.underlying30 rfl (slRep.old ha2 he19 (Nat.le_refl _))) ?_
      refine TL.yld rfl rfl (yld_lss rfl rfl rfl) ?_
      refine TL.done ?_
      refine NX.seq ?_
      refine WC.cond rfl ?_ ?_
      · intro hc25
        replace hF := bif_t hc25 hF
        refine WC.skip' ?_
        refine NX.seq ?_
        refine WC.seq ?_
        refine WC.block ?_
        refine WC.region ?_
        refine TL.yld rfl rfl (yld_move rfl rfl) ?_
        refine TL.yld rfl rfl (yld_move rfl rfl) ?_
        refine TL.yld rfl rfl (yld_move rfl rfl) ?_
        refine TL.yld rfl rfl (yld_move rfl rfl) ?_
        obtain ⟨x26, hy27, hF⟩ := bsome hF
        refine TL.ye rfl rfl (ye_index (c := C_LatchLink) rfl Try.underlying30 cn_111 rfl rfl (slRep.old ha2 he19 (Nat.le_refl _)) hy27) ?_
        rintro _ ⟨b28, o29, us30, rfl, -, hr31, hcl32⟩
        obtain rfl := C_LatchLink_open hr31
        refine TL.yld rfl rfl (yld_loadN (us := [.int .i64 x26.From, .int .i64 x26.To, .int .i64 x26.Delay, .int .i64 x26.Shift]) rfl ag_111 rfl hcl32 cn_111) ?_
        obtain ⟨r33, hr34, hF⟩ := bsome hF
        refine TL.eff rfl rfl (eff_call rfl gf_90 rfl (W_laws_toLatchLink hr34)) ?_
        rintro _ w35 ⟨⟨us38, rfl, hr39⟩, hx36⟩
        have he40 : Ext w w35 := Ext.trans he19 hx36
        have hs22 := ownR.ext hs22 hx36
        have hz41 := (hx36).size
        obtain rfl := C_LatchLink_open hr39
        obtain ⟨x42, hy43, hF⟩ := bsome hF
        refine TL.ye rfl rfl (ye_index_own (c := C_LatchLink) rfl Try.underlying36 cn_77 rfl rfl hs22 hy43) ?_
        rintro _ ⟨g44, us46, rfl, hg45, hr47, hcl48⟩
        have hr47r := hr47
        obtain rfl := C_LatchLink_open hr47
        refine TL.eff rfl rfl (eff_store_own (c := C_LatchLink) (us' := [.int .i64 r33.From, .int .i64 r33.To, .int .i64 r33.Delay, .int .i64 r33.Shift]) (y' := r33) 0 _ rfl rfl rfl hs22 hg45 hy43 rfl cn_77 rfl hr47r hcl48 rfl rfl C_LatchLink_mk (fun k h => absurd h.2 (Nat.not_lt_zero k))) ?_
        rintro _ w49 ⟨hu50, hs51⟩
        have he52 : Ext w w49 := Below.trans he40 (Upd.below hu50 (by have := hbd16 _ hg45; omega))
        have hz53 := (hu50).size
        refine TL.done ?_
        refine NX.blk_n ?_
        refine NX.seq ?_
        refine WC.region ?_
        refine TL.yld rfl rfl (yld_move rfl rfl) ?_
        refine TL.yld rfl rfl (yld_add rfl rfl rfl) ?_
        refine TL.yld rfl rfl (yld_assign rfl rfl) ?_
        refine TL.done ?_
        refine NX.then_n ?_
        intro a hK; exact ⟨m23, Nat.lt_succ_self m23, (IntKind.wrap IntKind.i64 (i20 + 1)), ((l21.set (i20).toNat r33)), hK.weaken ⟨rfl, rfl, rfl, trivial⟩, he52, (by omega), hs51, hF⟩
      · intro hc54
        replace hF := bif_f hc54 hF
        refine WC.exit' ?_
        refine NX.then_e ?_
        refine NX.then_e ?_
        refine NX.blk_hit ?_
        refine NX.seq ?_
        refine WC.seq ?_
        refine WC.region ?_
        refine TL.yld rfl rfl (yld_move rfl rfl) ?_
        refine TL.yld rfl rfl (yld_assign rfl rfl) ?_
        refine TL.done ?_
        refine NX.seq ?_
        refine WC.ret' ?_
        obtain rfl := Option.some.inj hF
        exact NX.end (rs := [.tmp 2]) (vs := [v5]) rfl ⟨rfl, trivial⟩ ⟨_, rfl, (ownR.slf hs22 (by omega) (Nat.le_refl _)), he19⟩

-- loop.example/g00861/laws.toLatchSystem
def F_laws_toLatchSystem (n : Nat) (a0_a : S_LatchSystem) : Option S_LatchSystem := (Option.bind (F_laws_toLatchS n a0_a.Latches) fun r26 => (Option.bind (F_laws_toLatchLinkS n a0_a.Links) fun r39 => (some ((S_LatchSystem.mk r26 r39)))))
theorem W_laws_toLatchSystem {n : Nat} {a0_a : S_LatchSystem} {r : S_LatchSystem} {w : World} {v1 : Value} {v3 : Value} (hF : F_laws_toLatchSystem n a0_a = some r) (ha2 : slRep C_Latch w (Iv 0 w.heap.size) a0_a.Latches v1) (ha4 : slRep C_LatchLink w (Iv 0 w.heap.size) a0_a.Links v3) :
    Calls Try.prog 20 [.agg #[v1, v3]].toArray w (Ret fun u w2 => (∃ us, u = .agg us.toArray ∧ C_LatchSystem.rep w2 (Iv w.heap.size w2.heap.size) r us) ∧ Ext w w2) := by
  refine calls_of Try.func20 rfl Try.ntmps20 ?_
  have he0 : Ext w w := Ext.refl w
  unfold F_laws_toLatchSystem at hF
  refine WC.seq ?_
  refine WC.region ?_
  refine TL.eff rfl rfl (eff_box rfl rfl) ?_
  rintro _ w6 ⟨b5, rfl, hn7⟩
  obtain ⟨hn7e, hn7s, hn7x, hb8⟩ := hn7
  have hb8 : Box w6 b5 [v1, v3] 32 := hb8
  have he10 : Ext w w6 := Ext.trans he0 hn7x
  have hz11 := (hn7x).size
  have hlo9 : w.heap.size ≤ b5 := by rw [hn7e]; exact (he0).size
  refine TL.eff rfl rfl (eff_alloc rfl zn_38) ?_
  rintro _ w13 ⟨b12, rfl, hn14⟩
  obtain ⟨hn14e, hn14s, hn14x, hb15⟩ := hn14
  have hb15 : Box w13 b12 [.slice none 0 0, .slice none 0 0] 38 := hb15
  have he17 : Ext w w13 := Ext.trans he10 hn14x
  have hb8 := Box.ext hb8 hn14x
  have hz18 := (hn14x).size
  have hlo16 : w.heap.size ≤ b12 := by rw [hn14e]; exact (he10).size
  refine TL.done ?_
  refine NX.seq ?_
  refine WC.seq ?_
  refine WC.region ?_
  refine TL.eff rfl rfl (eff_alloc rfl zn_38) ?_
  rintro _ w20 ⟨b19, rfl, hn21⟩
  obtain ⟨hn21e, hn21s, hn21x, hb22⟩ := hn21
  have hb22 : Box w20 b19 [.slice none 0 0, .slice none 0 0] 38 := hb22
  have he24 : Ext w w20 := Ext.trans he17 hn21x
  have hb8 := Box.ext hb8 hn21x
  have hb15 := Box.ext hb15 hn21x
  have hz25 := (hn21x).size
  have hlo23 : w.heap.size ≤ b19 := by rw [hn21e]; exact (he17).size
  refine TL.done ?_
  refine NX.seq ?_
  refine WC.seq ?_
  refine WC.region ?_
  refine TL.yld rfl rfl (yld_fieldAddr rfl fo_32_0 rfl) ?_
  refine TL.yld rfl rfl (yld_load1 0 rfl ag_29 rfl (Box.cells hb8) rfl rfl) ?_
  obtain ⟨r26, hr27, hF⟩ := bsome hF
  refine TL.eff rfl rfl (eff_call rfl gf_58 rfl (W_laws_toLatchS hr27 ((slRep.old ha2 he24 (Nat.le_refl _)).wide (Nat.le_refl _) (he24).size))) ?_
  rintro u30 w28 ⟨hs31, hx29⟩
  have he32 : Ext w w28 := Ext.trans he24 hx29
  have hb8 := Box.ext hb8 hx29
  have hb15 := Box.ext hb15 hx29
  have hb22 := Box.ext hb22 hx29
  have hz33 := (hx29).size
  refine TL.yld rfl rfl (yld_fieldAddr rfl fo_38_0 rfl) ?_
  refine TL.eff rfl rfl (eff_store1 rfl rfl rfl hb22 cn_35 (slRep.cells hs31) (slRep.one hs31) rfl) ?_
  rintro _ w34 ⟨hu35, hb36⟩
  have he37 : Ext w w34 := Below.trans he32 (Upd.below hu35 hlo23)
  have hb8 := Box.upd hb8 hu35 (by omega)
  have hb15 := Box.upd hb15 hu35 (by omega)
  have hs31 := slRep.upd hs31 hu35 (by omega)
  have hz38 := (hu35).size
  have hb22 : Box w34 b19 [u30, .slice none 0 0] 38 := hb36
  refine TL.done ?_
  refine NX.seq ?_
  refine WC.seq ?_
  refine WC.region ?_
  refine TL.yld rfl rfl (yld_fieldAddr rfl fo_32_1 rfl) ?_
  refine TL.yld rfl rfl (yld_load1 1 rfl ag_30 rfl (Box.cells hb8) rfl rfl) ?_
  obtain ⟨r39, hr40, hF⟩ := bsome hF
  refine TL.eff rfl rfl (eff_call rfl gf_59 rfl (W_laws_toLatchLinkS hr40 ((slRep.old ha4 he37 (Nat.le_refl _)).wide (Nat.le_refl _) (he37).size))) ?_
  rintro u43 w41 ⟨hs44, hx42⟩
  have he45 : Ext w w41 := Ext.trans he37 hx42
  have hb8 := Box.ext hb8 hx42
  have hb15 := Box.ext hb15 hx42
  have hb22 := Box.ext hb22 hx42
  have hs31 := slRep.old hs31 hx42 (by omega)
  have hz46 := (hx42).size
  refine TL.yld rfl rfl (yld_fieldAddr rfl fo_38_1 rfl) ?_
  refine TL.eff rfl rfl (eff_store1 rfl rfl rfl hb22 cn_36 (slRep.cells hs44) (slRep.one hs44) rfl) ?_
  rintro _ w47 ⟨hu48, hb49⟩
  have he50 : Ext w w47 := Below.trans he45 (Upd.below hu48 hlo23)
  have hb8 := Box.upd hb8 hu48 (by omega)
  have hb15 := Box.upd hb15 hu48 (by omega)
  have hs31 := slRep.upd hs31 hu48 (by omega)
  have hs44 := slRep.upd hs44 hu48 (by omega)
  have hz51 := (hu48).size
  have hb22 : Box w47 b19 [u30, u43] 38 := hb49
  refine TL.done ?_
  refine NX.seq ?_
  refine WC.seq ?_
  refine WC.region ?_
  refine TL.yld rfl rfl (yld_loadN (us := [u30, u43]) rfl ag_38 rfl (Box.cells hb22) cn_38) ?_
  refine TL.eff rfl rfl (eff_store rfl rfl rfl hb15 cn_38 (allc_cons (slRep.one hs31) (allc_cons (slRep.one hs44) allc_nil)) rfl) ?_
  rintro _ w52 ⟨hu53, hb54⟩
  have he55 : Ext w w52 := Below.trans he50 (Upd.below hu53 hlo16)
  have hb8 := Box.upd hb8 hu53 (by omega)
  have hb22 := Box.upd hb22 hu53 (by omega)
  have hs31 := slRep.upd hs31 hu53 (by omega)
  have hs44 := slRep.upd hs44 hu53 (by omega)
  have hz56 := (hu53).size
  have hb15 : Box w52 b12 [u30, u43] 38 := hb54
  refine TL.done ?_
  refine NX.seq ?_
  refine WC.ret' ?_
  obtain rfl := Option.some.inj hF
  exact NX.end (rs := [.cell 2 38]) (vs := [.agg #[u30, u43]]) rfl ⟨⟨b12, rfl, box_load ag_38 cn_38 hb15⟩, trivial⟩ ⟨_, rfl, ⟨_, rfl, (C_LatchSystem_mk (hs31.wide (by omega) (by omega)) (hs44.wide (by omega) (by omega)))⟩, he55⟩

-- loop.example/g00861/impl.length[loop.example/g00861/impl.Latch]
def F_impl_length_impl_Latch (n : Nat) (a0_list : List S_Latch) : Option Int := (some ((a0_list.length : Int)))
theorem W_impl_length_impl_Latch {n : Nat} {a0_list : List S_Latch} {r : Int} {w : World} {v1 : Value} (hF : F_impl_length_impl_Latch n a0_list = some r) (ha2 : slRep C_Latch w (Iv 0 w.heap.size) a0_list v1) :
    Calls Try.prog 60 [v1].toArray w (Ret fun u w2 => u = .int .i64 r ∧ Ext w w2) := by
  refine calls_of Try.func60 rfl Try.ntmps60 ?_
  have he0 : Ext w w := Ext.refl w
  unfold F_impl_length_impl_Latch at hF
  refine WC.seq ?_
  refine WC.region ?_
  refine TL.yld rfl rfl (yld_assign rfl rfl) ?_
  refine TL.done ?_
  refine NX.seq ?_
  refine WC.seq ?_
  refine WC.region ?_
  refine TL.yld rfl rfl (yld_move rfl rfl) ?_
  refine TL.yld rfl rfl (ye_len (c := C_Latch) rfl Try.underlying35 rfl (slRep.old ha2 he0 (Nat.le_refl _))) ?_
  refine TL.yld rfl rfl (yld_assign rfl rfl) ?_
  refine TL.done ?_
  refine NX.seq ?_
  refine WC.ret' ?_
  obtain rfl := Option.some.inj hF
  exact NX.end (rs := [.tmp 2]) (vs := [.int .i64 ((a0_list.length : Int))]) rfl ⟨rfl, trivial⟩ ⟨_, rfl, rfl, he0⟩

-- loop.example/g00861/impl.within
def F_impl_within (n : Nat) (a0_x : Int) (a1_low : Int) (a2_high : Int) : Option Bool := (some (((decide (a0_x ≥ a1_low)) && (decide (a0_x ≤ a2_high)))))
theorem W_impl_within {n : Nat} {a0_x : Int} {a1_low : Int} {a2_high : Int} {r : Bool} {w : World} (hF : F_impl_within n a0_x a1_low a2_high = some r) :
    Calls Try.prog 61 [.int .i64 a0_x, .int .i64 a1_low, .int .i64 a2_high].toArray w (Ret fun u w2 => u = .bool r ∧ Ext w w2) := by
  refine calls_of Try.func61 rfl Try.ntmps61 ?_
  have he0 : Ext w w := Ext.refl w
  unfold F_impl_within at hF
  refine WC.seq ?_
  refine WC.region ?_
  refine TL.yld rfl rfl (yld_assign rfl rfl) ?_
  refine TL.done ?_
  refine NX.seq ?_
  refine WC.seq ?_
  refine WC.region ?_
  refine TL.yld rfl rfl (yld_move rfl rfl) ?_
  refine TL.yld rfl rfl (yld_move rfl rfl) ?_
  refine TL.yld rfl rfl (yld_geq rfl rfl rfl) ?_
  refine TL.yld rfl rfl (yld_move rfl rfl) ?_
  refine TL.cut 4 [(14, .bool (((decide (a0_x ≥ a1_low)) && (decide (a0_x ≤ a2_high)))))] (fun w' => Ext w w') ?_ ?_
  · rcases Bool.eq_false_or_eq_true (decide (a0_x ≥ a1_low)) with hg | hg
    ·
      refine TL.gy (j := 3) (t := 10) rfl rfl rfl hg rfl (yld_move rfl rfl) ?_
      refine TL.gy (j := 3) (t := 10) rfl rfl rfl hg rfl (yld_move rfl rfl) ?_
      refine TL.gy (j := 3) (t := 10) rfl rfl rfl hg rfl (yld_leq rfl rfl rfl) ?_
      refine TL.yld rfl rfl (yld_and_t rfl rfl hg rfl) ?_
      exact TL.nil fun a h => ⟨h.weaken ⟨rfl, trivial⟩, Ext.refl _⟩
    ·
      refine TL.gn (j := 3) (t := 10) rfl rfl rfl hg rfl rfl rfl ?_
      refine TL.gn (j := 3) (t := 10) rfl rfl rfl hg rfl rfl rfl ?_
      refine TL.gn (j := 3) (t := 10) rfl rfl rfl hg rfl rfl rfl ?_
      refine TL.yld rfl rfl (yld_and_f (b2 := decide (a0_x ≤ a2_high)) rfl rfl hg rfl) ?_
      exact TL.nil fun a h => ⟨h.weaken ⟨rfl, trivial⟩, Ext.refl _⟩
  intro w1 hx2
  have he3 : Ext w w1 := Ext.trans he0 hx2
  have hz4 := (hx2).size
  refine TL.yld rfl rfl (yld_assign rfl rfl) ?_
  refine TL.done ?_
  refine NX.seq ?_
  refine WC.ret' ?_
  obtain rfl := Option.some.inj hF
  exact NX.end (rs := [.tmp 6]) (vs := [.bool (((decide (a0_x ≥ a1_low)) && (decide (a0_x ≤ a2_high))))]) rfl ⟨rfl, trivial⟩ ⟨_, rfl, rfl, he3⟩

-- loop.example/g00861/impl.IsLatchSystem
def F_impl_IsLatchSystem_L2 (n : Nat) (a0_s : S_LatchSystem) (r16 : Int) (k2 : Int → Option Bool) : Nat → Int → Option Bool
  | 0 => fun _ => none
  | m + 1 => fun i25 => (bif decide (i25 < (a0_s.Links.length : Int)) then (Option.bind (getI a0_s.Links i25) fun x28 => (Option.bind (F_impl_within n x28.From 0 (IntKind.wrap IntKind.i64 (r16 - 1))) fun r47 => (Option.bind (bif (!r47) then (some true) else (Option.bind (F_impl_within n x28.To 0 (IntKind.wrap IntKind.i64 (r16 - 1))) fun r54 => (some (!r54)))) fun c54 => (Option.bind (bif c54 then (some true) else (Option.bind (F_impl_within n x28.Delay 0 100000) fun r67 => (some (!r67)))) fun c67 => (Option.bind (bif c67 then (some true) else (Option.bind (F_impl_within n x28.Shift 0 100000) fun r80 => (some (!r80)))) fun c80 => (bif c80 then (some false) else (F_impl_IsLatchSystem_L2 n a0_s r16 k2 m (IntKind.wrap IntKind.i64 (i25 + 1))))))))) else (k2 i25))
theorem F_impl_IsLatchSystem_L2_z (n : Nat) (a0_s : S_LatchSystem) (r16 : Int) (k2 : Int → Option Bool) (i25 : Int) : F_impl_IsLatchSystem_L2 n a0_s r16 k2 0 i25 = none := rfl
theorem F_impl_IsLatchSystem_L2_s (m : Nat) (n : Nat) (a0_s : S_LatchSystem) (r16 : Int) (k2 : Int → Option Bool) (i25 : Int) : F_impl_IsLatchSystem_L2 n a0_s r16 k2 (m + 1) i25 = (bif decide (i25 < (a0_s.Links.length : Int)) then (Option.bind (getI a0_s.Links i25) fun x28 => (Option.bind (F_impl_within n x28.From 0 (IntKind.wrap IntKind.i64 (r16 - 1))) fun r47 => (Option.bind (bif (!r47) then (some true) else (Option.bind (F_impl_within n x28.To 0 (IntKind.wrap IntKind.i64 (r16 - 1))) fun r54 => (some (!r54)))) fun c54 => (Option.bind (bif c54 then (some true) else (Option.bind (F_impl_within n x28.Delay 0 100000) fun r67 => (some (!r67)))) fun c67 => (Option.bind (bif c67 then (some true) else (Option.bind (F_impl_within n x28.Shift 0 100000) fun r80 => (some (!r80)))) fun c80 => (bif c80 then (some false) else (F_impl_IsLatchSystem_L2 n a0_s r16 k2 m (IntKind.wrap IntKind.i64 (i25 + 1))))))))) else (k2 i25)) := rfl

def F_impl_IsLatchSystem_L1 (a0_s : S_LatchSystem) (k0 : Int → Option Bool) : Nat → Int → Option Bool
  | 0 => fun _ => none
  | m + 1 => fun i14 => (bif decide (i14 < (a0_s.Latches.length : Int)) then (Option.bind (getI a0_s.Latches i14) fun x17 => (bif ((((decide (x17.Open < 0)) || (decide (x17.Open > x17.Close)))) || (decide (x17.Close > 100000))) then (some false) else (F_impl_IsLatchSystem_L1 a0_s k0 m (IntKind.wrap IntKind.i64 (i14 + 1))))) else (k0 i14))
theorem F_impl_IsLatchSystem_L1_z (a0_s : S_LatchSystem) (k0 : Int → Option Bool) (i14 : Int) : F_impl_IsLatchSystem_L1 a0_s k0 0 i14 = none := rfl
theorem F_impl_IsLatchSystem_L1_s (m : Nat) (a0_s : S_LatchSystem) (k0 : Int → Option Bool) (i14 : Int) : F_impl_IsLatchSystem_L1 a0_s k0 (m + 1) i14 = (bif decide (i14 < (a0_s.Latches.length : Int)) then (Option.bind (getI a0_s.Latches i14) fun x17 => (bif ((((decide (x17.Open < 0)) || (decide (x17.Open > x17.Close)))) || (decide (x17.Close > 100000))) then (some false) else (F_impl_IsLatchSystem_L1 a0_s k0 m (IntKind.wrap IntKind.i64 (i14 + 1))))) else (k0 i14)) := rfl

def F_impl_IsLatchSystem (n : Nat) (a0_s : S_LatchSystem) : Option Bool := (F_impl_IsLatchSystem_L1 a0_s (fun i14 => (Option.bind (F_impl_length_impl_Latch n a0_s.Latches) fun r16 => (F_impl_IsLatchSystem_L2 n a0_s r16 (fun i25 => (some (((decide (r16 ≤ 12)) && (decide ((a0_s.Links.length : Int) ≤ 60)))))) n 0))) n 0)
theorem W_impl_IsLatchSystem {n : Nat} {a0_s : S_LatchSystem} {r : Bool} {w : World} {v1 : Value} {v3 : Value} (hF : F_impl_IsLatchSystem n a0_s = some r) (ha2 : slRep C_Latch w (Iv 0 w.heap.size) a0_s.Latches v1) (ha4 : slRep C_LatchLink w (Iv 0 w.heap.size) a0_s.Links v3) :
    Calls Try.prog 21 [.agg #[v1, v3]].toArray w (Ret fun u w2 => u = .bool r ∧ Ext w w2) := by
  refine calls_of Try.func21 rfl Try.ntmps21 ?_
  have he0 : Ext w w := Ext.refl w
  unfold F_impl_IsLatchSystem at hF
  refine WC.seq ?_
  refine WC.region ?_
  refine TL.eff rfl rfl (eff_box rfl rfl) ?_
  rintro _ w6 ⟨b5, rfl, hn7⟩
  obtain ⟨hn7e, hn7s, hn7x, hb8⟩ := hn7
  have hb8 : Box w6 b5 [v1, v3] 38 := hb8
  have he10 : Ext w w6 := Ext.trans he0 hn7x
  have hz11 := (hn7x).size
  have hlo9 : w.heap.size ≤ b5 := by rw [hn7e]; exact (he0).size
  refine TL.yld rfl rfl (yld_assign rfl rfl) ?_
  refine TL.done ?_
  refine NX.seq ?_
  refine WC.seq ?_
  refine WC.seq ?_
  refine WC.region ?_
  refine TL.yld rfl rfl (yld_fieldAddr rfl fo_38_0 rfl) ?_
  refine TL.yld rfl rfl (yld_load1 0 rfl ag_35 rfl (Box.cells hb8) rfl rfl) ?_
  refine TL.yld rfl rfl (ye_len (c := C_Latch) rfl Try.underlying35 rfl (slRep.old ha2 he10 (Nat.le_refl _))) ?_
  refine TL.yld rfl rfl (yld_move rfl rfl) ?_
  refine TL.done ?_
  refine NX.seq ?_
  refine WC.block ?_
  refine WC.loop (fun m16 a wl => ∃ (i14 : Int), Kn 76 [(1, .pointer (some ⟨b5, 0, none⟩)), (9, v1), (10, .int .i64 ((a0_s.Latches.length : Int))), (11, .int .i64 i14)] a ∧ Ext w wl ∧ w6.heap.size ≤ wl.heap.size ∧ Box wl b5 [v1, v3] 38 ∧ F_impl_IsLatchSystem_L1 a0_s (fun i14 => (Option.bind (F_impl_length_impl_Latch n a0_s.Latches) fun r16 => (F_impl_IsLatchSystem_L2 n a0_s r16 (fun i25 => (some (((decide (r16 ≤ 12)) && (decide ((a0_s.Links.length : Int) ≤ 60)))))) n 0))) m16 i14 = some r) n ?_ ?_
  · intro a hK; exact ⟨0, hK.weaken ⟨rfl, rfl, rfl, rfl, trivial⟩, he10, Nat.le_refl _, hb8, hF⟩
  · rintro m16 a w12 ⟨i14, hK, he13, hz17, hb15, hF⟩
    revert hK; revert a; refine (?_ : WC _ _ _ _ _ _)
    cases m16 with
    | zero => rw [F_impl_IsLatchSystem_L1_z] at hF; cases hF
    | succ m16 =>
      rw [F_impl_IsLatchSystem_L1_s] at hF
      refine WC.seq ?_
      refine WC.region ?_
      refine TL.yld rfl rfl (yld_lss rfl rfl rfl) ?_
      refine TL.done ?_
      refine NX.seq ?_
      refine WC.seq ?_
      refine WC.cond rfl ?_ ?_
      · intro hc18
        replace hF := bif_t hc18 hF
        refine WC.skip' ?_
        refine NX.seq ?_
        refine WC.seq ?_
        refine WC.block ?_
        refine WC.seq ?_
        refine WC.region ?_
        obtain ⟨x19, hy20, hF⟩ := bsome hF
        refine TL.ye rfl rfl (ye_index (c := C_Latch) rfl Try.underlying35 cn_50 rfl rfl (slRep.old ha2 he13 (Nat.le_refl _)) hy20) ?_
        rintro _ ⟨b21, o22, us23, rfl, -, hr24, hcl25⟩
        obtain rfl := C_Latch_open hr24
        refine TL.yld rfl rfl (yld_loadN (us := [.int .i64 x19.Open, .int .i64 x19.Close]) rfl ag_50 rfl hcl25 cn_50) ?_
        refine TL.eff rfl rfl (eff_alloc rfl zn_50) ?_
        rintro _ w27 ⟨b26, rfl, hn28⟩
        obtain ⟨hn28e, hn28s, hn28x, hb29⟩ := hn28
        have hb29 : Box w27 b26 [.int .i64 0, .int .i64 0] 50 := hb29
        have he31 : Ext w w27 := Ext.trans he13 hn28x
        have hb15 := Box.ext hb15 hn28x
        have hz32 := (hn28x).size
        have hlo30 : w.heap.size ≤ b26 := by rw [hn28e]; exact (he13).size
        refine TL.eff rfl rfl (eff_store rfl rfl rfl hb29 cn_50 rfl rfl) ?_
        rintro _ w33 ⟨hu34, hb35⟩
        have he36 : Ext w w33 := Below.trans he31 (Upd.below hu34 hlo30)
        have hb15 := Box.upd hb15 hu34 (by omega)
        have hz37 := (hu34).size
        have hb29 : Box w33 b26 [.int .i64 x19.Open, .int .i64 x19.Close] 50 := hb35
        refine TL.done ?_
        refine NX.seq ?_
        refine WC.seq ?_
        refine WC.region ?_
        refine TL.yld rfl rfl (yld_fieldAddr rfl fo_50_0 rfl) ?_
        refine TL.yld rfl rfl (yld_load1 0 rfl ag_2 rfl (Box.cells hb29) rfl rfl) ?_
        refine TL.yld rfl rfl (yld_lss rfl rfl rfl) ?_
        refine TL.yld rfl rfl (yld_move rfl rfl) ?_
        refine TL.cut 6 [(1, .pointer (some ⟨b5, 0, none⟩)), (4, .pointer (some ⟨b26, 0, none⟩)), (9, v1), (10, .int .i64 ((a0_s.Latches.length : Int))), (11, .int .i64 i14), (24, .bool (((decide (x19.Open < 0)) || (decide (x19.Open > x19.Close)))))] (fun w' => Ext w33 w') ?_ ?_
        · rcases Bool.eq_false_or_eq_true (decide (x19.Open < 0)) with hg | hg
          ·
            refine TL.gn (j := 3) (t := 18) rfl rfl rfl hg rfl rfl rfl ?_
            refine TL.gn (j := 3) (t := 18) rfl rfl rfl hg rfl rfl rfl ?_
            refine TL.gn (j := 3) (t := 18) rfl rfl rfl hg rfl rfl rfl ?_
            refine TL.gn (j := 3) (t := 18) rfl rfl rfl hg rfl rfl rfl ?_
            refine TL.gn (j := 3) (t := 18) rfl rfl rfl hg rfl rfl rfl ?_
            refine TL.yld rfl rfl (yld_or_t (b2 := decide (x19.Open > x19.Close)) rfl rfl hg rfl) ?_
            exact TL.nil fun a h => ⟨h.weaken ⟨rfl, rfl, rfl, rfl, rfl, rfl, trivial⟩, Ext.refl _⟩
          ·
            refine TL.gy (j := 3) (t := 18) rfl rfl rfl hg rfl (yld_fieldAddr rfl fo_50_0 rfl) ?_
            refine TL.gy (j := 3) (t := 18) rfl rfl rfl hg rfl (yld_load1 0 rfl ag_2 rfl (Box.cells hb29) rfl rfl) ?_
            refine TL.gy (j := 3) (t := 18) rfl rfl rfl hg rfl (yld_fieldAddr rfl fo_50_1 rfl) ?_
            refine TL.gy (j := 3) (t := 18) rfl rfl rfl hg rfl (yld_load1 1 rfl ag_2 rfl (Box.cells hb29) rfl rfl) ?_
            refine TL.gy (j := 3) (t := 18) rfl rfl rfl hg rfl (yld_gtr rfl rfl rfl) ?_
            refine TL.yld rfl rfl (yld_or_f rfl rfl hg rfl) ?_
            exact TL.nil fun a h => ⟨h.weaken ⟨rfl, rfl, rfl, rfl, rfl, rfl, trivial⟩, Ext.refl _⟩
        intro w38 hx39
        have he40 : Ext w w38 := Ext.trans he36 hx39
        have hb15 := Box.ext hb15 hx39
        have hb29 := Box.ext hb29 hx39
        have hz41 := (hx39).size
        refine TL.yld rfl rfl (yld_move rfl rfl) ?_
        refine TL.cut 4 [(1, .pointer (some ⟨b5, 0, none⟩)), (9, v1), (10, .int .i64 ((a0_s.Latches.length : Int))), (11, .int .i64 i14), (29, .bool (((((decide (x19.Open < 0)) || (decide (x19.Open > x19.Close)))) || (decide (x19.Close > 100000)))))] (fun w' => Ext w38 w') ?_ ?_
        · rcases Bool.eq_false_or_eq_true (((decide (x19.Open < 0)) || (decide (x19.Open > x19.Close)))) with hg | hg
          ·
            refine TL.gn (j := 10) (t := 25) rfl rfl rfl hg rfl rfl rfl ?_
            refine TL.gn (j := 10) (t := 25) rfl rfl rfl hg rfl rfl rfl ?_
            refine TL.gn (j := 10) (t := 25) rfl rfl rfl hg rfl rfl rfl ?_
            refine TL.yld rfl rfl (yld_or_t (b2 := decide (x19.Close > 100000)) rfl rfl hg rfl) ?_
            exact TL.nil fun a h => ⟨h.weaken ⟨rfl, rfl, rfl, rfl, rfl, trivial⟩, Ext.refl _⟩
          ·
            refine TL.gy (j := 10) (t := 25) rfl rfl rfl hg rfl (yld_fieldAddr rfl fo_50_1 rfl) ?_
            refine TL.gy (j := 10) (t := 25) rfl rfl rfl hg rfl (yld_load1 1 rfl ag_2 rfl (Box.cells hb29) rfl rfl) ?_
            refine TL.gy (j := 10) (t := 25) rfl rfl rfl hg rfl (yld_gtr rfl rfl rfl) ?_
            refine TL.yld rfl rfl (yld_or_f rfl rfl hg rfl) ?_
            exact TL.nil fun a h => ⟨h.weaken ⟨rfl, rfl, rfl, rfl, rfl, trivial⟩, Ext.refl _⟩
        intro w42 hx43
        have he44 : Ext w w42 := Ext.trans he40 hx43
        have hb15 := Box.ext hb15 hx43
        have hb29 := Box.ext hb29 hx43
        have hz45 := (hx43).size
        refine TL.done ?_
        refine NX.seq ?_
        refine WC.cond rfl ?_ ?_
        · intro hc46
          replace hF := bif_t hc46 hF
          refine WC.seq ?_
          refine WC.region ?_
          refine TL.yld rfl rfl (yld_assign rfl rfl) ?_
          refine TL.done ?_
          refine NX.seq ?_
          refine WC.ret' ?_
          refine NX.blk_r ?_
          refine NX.then_r ?_
          refine NX.then_r ?_
          refine NX.blk_r ?_
          refine NX.then_r ?_
          obtain rfl := Option.some.inj hF
          exact NX.end (rs := [.tmp 2]) (vs := [.bool false]) rfl ⟨rfl, trivial⟩ ⟨_, rfl, rfl, he44⟩
        · intro hc47
          replace hF := bif_f hc47 hF
          refine WC.skip' ?_
          refine NX.blk_n ?_
          refine NX.seq ?_
          refine WC.region ?_
          refine TL.yld rfl rfl (yld_add rfl rfl rfl) ?_
          refine TL.yld rfl rfl (yld_move rfl rfl) ?_
          refine TL.done ?_
          refine NX.then_n ?_
          intro a hK; exact ⟨m16, Nat.lt_succ_self m16, (IntKind.wrap IntKind.i64 (i14 + 1)), hK.weaken ⟨rfl, rfl, rfl, rfl, trivial⟩, he44, (by omega), hb15, hF⟩
      · intro hc48
        replace hF := bif_f hc48 hF
        refine WC.exit' ?_
        refine NX.then_e ?_
        refine NX.then_e ?_
        refine NX.blk_hit ?_
        refine NX.seq ?_
        refine WC.seq ?_
        refine WC.region ?_
        refine TL.yld rfl rfl (yld_fieldAddr rfl fo_38_0 rfl) ?_
        refine TL.yld rfl rfl (yld_load1 0 rfl ag_35 rfl (Box.cells hb15) rfl rfl) ?_
        obtain ⟨r49, hr50, hF⟩ := bsome hF
        refine TL.eff rfl rfl (eff_call rfl gf_60 rfl (W_impl_length_impl_Latch hr50 ((slRep.old ha2 he13 (Nat.le_refl _)).wide (Nat.le_refl _) (he13).size))) ?_
        rintro _ w51 ⟨rfl, hx52⟩
        have he54 : Ext w w51 := Ext.trans he13 hx52
        have hb15 := Box.ext hb15 hx52
        have hz55 := (hx52).size
        refine TL.yld rfl rfl (yld_assign rfl rfl) ?_
        refine TL.done ?_
        refine NX.seq ?_
        refine WC.seq ?_
        refine WC.seq ?_
        refine WC.region ?_
        refine TL.yld rfl rfl (yld_fieldAddr rfl fo_38_1 rfl) ?_
        refine TL.yld rfl rfl (yld_load1 1 rfl ag_36 rfl (Box.cells hb15) rfl rfl) ?_
        refine TL.yld rfl rfl (ye_len (c := C_LatchLink) rfl Try.underlying36 rfl (slRep.old ha4 he54 (Nat.le_refl _))) ?_
        refine TL.yld rfl rfl (yld_move rfl rfl) ?_
        refine TL.done ?_
        refine NX.seq ?_
        refine WC.block ?_
        refine WC.loop (fun m60 a wl => ∃ (i58 : Int), Kn 76 [(1, .pointer (some ⟨b5, 0, none⟩)), (5, .int .i64 r49), (35, v3), (36, .int .i64 ((a0_s.Links.length : Int))), (37, .int .i64 i58)] a ∧ Ext w wl ∧ w51.heap.size ≤ wl.heap.size ∧ Box wl b5 [v1, v3] 38 ∧ F_impl_IsLatchSystem_L2 n a0_s r49 (fun i58 => (some (((decide (r49 ≤ 12)) && (decide ((a0_s.Links.length : Int) ≤ 60)))))) m60 i58 = some r) n ?_ ?_
        · intro a hK; exact ⟨0, hK.weaken ⟨rfl, rfl, rfl, rfl, rfl, trivial⟩, he54, Nat.le_refl _, hb15, hF⟩
        · rintro m60 a w56 ⟨i58, hK, he57, hz61, hb59, hF⟩
          revert hK; revert a; refine (?_ : WC _ _ _ _ _ _)
          cases m60 with
          | zero => rw [F_impl_IsLatchSystem_L2_z] at hF; cases hF
          | succ m60 =>
            rw [F_impl_IsLatchSystem_L2_s] at hF
            refine WC.seq ?_
            refine WC.region ?_
            refine TL.yld rfl rfl (yld_lss rfl rfl rfl) ?_
            refine TL.done ?_
            refine NX.seq ?_
            refine WC.seq ?_
            refine WC.cond rfl ?_ ?_
            · intro hc62
              replace hF := bif_t hc62 hF
              refine WC.skip' ?_
              refine NX.seq ?_
              refine WC.seq ?_
              refine WC.block ?_
              refine WC.seq ?_
              refine WC.region ?_
              obtain ⟨x63, hy64, hF⟩ := bsome hF
              refine TL.ye rfl rfl (ye_index (c := C_LatchLink) rfl Try.underlying36 cn_77 rfl rfl (slRep.old ha4 he57 (Nat.le_refl _)) hy64) ?_
              rintro _ ⟨b65, o66, us67, rfl, -, hr68, hcl69⟩
              obtain rfl := C_LatchLink_open hr68
              refine TL.yld rfl rfl (yld_loadN (us := [.int .i64 x63.From, .int .i64 x63.To, .int .i64 x63.Delay, .int .i64 x63.Shift]) rfl ag_77 rfl hcl69 cn_77) ?_
              refine TL.eff rfl rfl (eff_alloc rfl zn_77) ?_
              rintro _ w71 ⟨b70, rfl, hn72⟩
              obtain ⟨hn72e, hn72s, hn72x, hb73⟩ := hn72
              have hb73 : Box w71 b70 [.int .i64 0, .int .i64 0, .int .i64 0, .int .i64 0] 77 := hb73
              have he75 : Ext w w71 := Ext.trans he57 hn72x
              have hb59 := Box.ext hb59 hn72x
              have hz76 := (hn72x).size
              have hlo74 : w.heap.size ≤ b70 := by rw [hn72e]; exact (he57).size
              refine TL.eff rfl rfl (eff_store rfl rfl rfl hb73 cn_77 rfl rfl) ?_
              rintro _ w77 ⟨hu78, hb79⟩
              have he80 : Ext w w77 := Below.trans he75 (Upd.below hu78 hlo74)
              have hb59 := Box.upd hb59 hu78 (by omega)
              have hz81 := (hu78).size
              have hb73 : Box w77 b70 [.int .i64 x63.From, .int .i64 x63.To, .int .i64 x63.Delay, .int .i64 x63.Shift] 77 := hb79
              refine TL.done ?_
              refine NX.seq ?_
              refine WC.seq ?_
              refine WC.region ?_
              refine TL.yld rfl rfl (yld_fieldAddr rfl fo_77_0 rfl) ?_
              refine TL.yld rfl rfl (yld_load1 0 rfl ag_2 rfl (Box.cells hb73) rfl rfl) ?_
              refine TL.yld rfl rfl (yld_move rfl rfl) ?_
              refine TL.yld rfl rfl (yld_sub rfl rfl rfl) ?_
              obtain ⟨r82, hr83, hF⟩ := bsome hF
              refine TL.eff rfl rfl (eff_call rfl gf_61 rfl (W_impl_within hr83)) ?_
              rintro _ w84 ⟨rfl, hx85⟩
              have he87 : Ext w w84 := Ext.trans he80 hx85
              have hb59 := Box.ext hb59 hx85
              have hb73 := Box.ext hb73 hx85
              have hz88 := (hx85).size
              refine TL.yld rfl rfl (yld_not rfl rfl) ?_
              refine TL.yld rfl rfl (yld_move rfl rfl) ?_
              obtain ⟨c89, hb90, hF⟩ := bsome hF
              refine TL.cut 7 [(1, .pointer (some ⟨b5, 0, none⟩)), (5, .int .i64 r49), (7, .pointer (some ⟨b70, 0, none⟩)), (35, v3), (36, .int .i64 ((a0_s.Links.length : Int))), (37, .int .i64 i58), (54, .bool c89)] (fun w' => Ext w84 w') ?_ ?_
              · rcases Bool.eq_false_or_eq_true (!r82) with hg | hg
                ·
                  rw [hg] at hb90; simp only [cond_true, cond_false] at hb90
                  refine TL.gn (j := 6) (t := 47) rfl rfl rfl hg rfl rfl rfl ?_
                  refine TL.gn (j := 6) (t := 47) rfl rfl rfl hg rfl rfl rfl ?_
                  refine TL.gn (j := 6) (t := 47) rfl rfl rfl hg rfl rfl rfl ?_
                  refine TL.gn (j := 6) (t := 47) rfl rfl rfl hg rfl rfl rfl ?_
                  refine TL.gn (j := 6) (t := 47) rfl rfl rfl hg rfl rfl rfl ?_
                  refine TL.gn (j := 6) (t := 47) rfl rfl rfl hg rfl rfl rfl ?_
                  obtain rfl := Option.some.inj hb90
                  refine TL.yld rfl rfl (yld_pick_t rfl rfl hg rfl) ?_
                  exact TL.nil fun a h => ⟨h.weaken ⟨rfl, rfl, rfl, rfl, rfl, rfl, rfl, trivial⟩, Ext.refl _⟩
                ·
                  rw [hg] at hb90; simp only [cond_true, cond_false] at hb90
                  replace hF := hb90
                  refine TL.gy (j := 6) (t := 47) rfl rfl rfl hg rfl (yld_fieldAddr rfl fo_77_1 rfl) ?_
                  refine TL.gy (j := 6) (t := 47) rfl rfl rfl hg rfl (yld_load1 1 rfl ag_2 rfl (Box.cells hb73) rfl rfl) ?_
                  refine TL.gy (j := 6) (t := 47) rfl rfl rfl hg rfl (yld_move rfl rfl) ?_
                  refine TL.gy (j := 6) (t := 47) rfl rfl rfl hg rfl (yld_sub rfl rfl rfl) ?_
                  obtain ⟨r91, hr92, hF⟩ := bsome hF
                  refine TL.ge (j := 6) (t := 47) rfl rfl rfl hg rfl (eff_call rfl gf_61 rfl (W_impl_within hr92)) ?_
                  rintro _ w93 ⟨rfl, hx94⟩
                  have he96 : Ext w w93 := Ext.trans he87 hx94
                  have hb59 := Box.ext hb59 hx94
                  have hb73 := Box.ext hb73 hx94
                  have hz97 := (hx94).size
                  refine TL.gy (j := 6) (t := 47) rfl rfl rfl hg rfl (yld_not rfl rfl) ?_
                  obtain rfl := Option.some.inj hF
                  refine TL.yld rfl rfl (yld_pick_f rfl rfl hg rfl) ?_
                  exact TL.nil fun a h => ⟨h.weaken ⟨rfl, rfl, rfl, rfl, rfl, rfl, rfl, trivial⟩, hx94⟩
              intro w98 hx99
              have he100 : Ext w w98 := Ext.trans he87 hx99
              have hb59 := Box.ext hb59 hx99
              have hb73 := Box.ext hb73 hx99
              have hz101 := (hx99).size
              refine TL.yld rfl rfl (yld_move rfl rfl) ?_
              obtain ⟨c102, hb103, hF⟩ := bsome hF
              refine TL.cut 5 [(1, .pointer (some ⟨b5, 0, none⟩)), (5, .int .i64 r49), (7, .pointer (some ⟨b70, 0, none⟩)), (35, v3), (36, .int .i64 ((a0_s.Links.length : Int))), (37, .int .i64 i58), (60, .bool c102)] (fun w' => Ext w98 w') ?_ ?_
              · rcases Bool.eq_false_or_eq_true c89 with hg | hg
                ·
                  rw [hg] at hb103; simp only [cond_true, cond_false] at hb103
                  refine TL.gn (j := 14) (t := 55) rfl rfl rfl hg rfl rfl rfl ?_
                  refine TL.gn (j := 14) (t := 55) rfl rfl rfl hg rfl rfl rfl ?_
                  refine TL.gn (j := 14) (t := 55) rfl rfl rfl hg rfl rfl rfl ?_
                  refine TL.gn (j := 14) (t := 55) rfl rfl rfl hg rfl rfl rfl ?_
                  obtain rfl := Option.some.inj hb103
                  refine TL.yld rfl rfl (yld_pick_t rfl rfl hg rfl) ?_
                  exact TL.nil fun a h => ⟨h.weaken ⟨rfl, rfl, rfl, rfl, rfl, rfl, rfl, trivial⟩, Ext.refl _⟩
                ·
                  rw [hg] at hb103; simp only [cond_true, cond_false] at hb103
                  replace hF := hb103
                  refine TL.gy (j := 14) (t := 55) rfl rfl rfl hg rfl (yld_fieldAddr rfl fo_77_2 rfl) ?_
                  refine TL.gy (j := 14) (t := 55) rfl rfl rfl hg rfl (yld_load1 2 rfl ag_2 rfl (Box.cells hb73) rfl rfl) ?_
                  obtain ⟨r104, hr105, hF⟩ := bsome hF
                  refine TL.ge (j := 14) (t := 55) rfl rfl rfl hg rfl (eff_call rfl gf_61 rfl (W_impl_within hr105)) ?_
                  rintro _ w106 ⟨rfl, hx107⟩
                  have he109 : Ext w w106 := Ext.trans he100 hx107
                  have hb59 := Box.ext hb59 hx107
                  have hb73 := Box.ext hb73 hx107
                  have hz110 := (hx107).size
                  refine TL.gy (j := 14) (t := 55) rfl rfl rfl hg rfl (yld_not rfl rfl) ?_
                  obtain rfl := Option.some.inj hF
                  refine TL.yld rfl rfl (yld_pick_f rfl rfl hg rfl) ?_
                  exact TL.nil fun a h => ⟨h.weaken ⟨rfl, rfl, rfl, rfl, rfl, rfl, rfl, trivial⟩, hx107⟩
              intro w111 hx112
              have he113 : Ext w w111 := Ext.trans he100 hx112
              have hb59 := Box.ext hb59 hx112
              have hb73 := Box.ext hb73 hx112
              have hz114 := (hx112).size
              refine TL.yld rfl rfl (yld_move rfl rfl) ?_
              obtain ⟨c115, hb116, hF⟩ := bsome hF
              refine TL.cut 5 [(1, .pointer (some ⟨b5, 0, none⟩)), (5, .int .i64 r49), (35, v3), (36, .int .i64 ((a0_s.Links.length : Int))), (37, .int .i64 i58), (66, .bool c115)] (fun w' => Ext w111 w') ?_ ?_
              · rcases Bool.eq_false_or_eq_true c102 with hg | hg
                ·
                  rw [hg] at hb116; simp only [cond_true, cond_false] at hb116
                  refine TL.gn (j := 20) (t := 61) rfl rfl rfl hg rfl rfl rfl ?_
                  refine TL.gn (j := 20) (t := 61) rfl rfl rfl hg rfl rfl rfl ?_
                  refine TL.gn (j := 20) (t := 61) rfl rfl rfl hg rfl rfl rfl ?_
                  refine TL.gn (j := 20) (t := 61) rfl rfl rfl hg rfl rfl rfl ?_
                  obtain rfl := Option.some.inj hb116
                  refine TL.yld rfl rfl (yld_pick_t rfl rfl hg rfl) ?_
                  exact TL.nil fun a h => ⟨h.weaken ⟨rfl, rfl, rfl, rfl, rfl, rfl, trivial⟩, Ext.refl _⟩
                ·
                  rw [hg] at hb116; simp only [cond_true, cond_false] at hb116
                  replace hF := hb116
                  refine TL.gy (j := 20) (t := 61) rfl rfl rfl hg rfl (yld_fieldAddr rfl fo_77_3 rfl) ?_
                  refine TL.gy (j := 20) (t := 61) rfl rfl rfl hg rfl (yld_load1 3 rfl ag_2 rfl (Box.cells hb73) rfl rfl) ?_
                  obtain ⟨r117, hr118, hF⟩ := bsome hF
                  refine TL.ge (j := 20) (t := 61) rfl rfl rfl hg rfl (eff_call rfl gf_61 rfl (W_impl_within hr118)) ?_
                  rintro _ w119 ⟨rfl, hx120⟩
                  have he122 : Ext w w119 := Ext.trans he113 hx120
                  have hb59 := Box.ext hb59 hx120
                  have hb73 := Box.ext hb73 hx120
                  have hz123 := (hx120).size
                  refine TL.gy (j := 20) (t := 61) rfl rfl rfl hg rfl (yld_not rfl rfl) ?_
                  obtain rfl := Option.some.inj hF
                  refine TL.yld rfl rfl (yld_pick_f rfl rfl hg rfl) ?_
                  exact TL.nil fun a h => ⟨h.weaken ⟨rfl, rfl, rfl, rfl, rfl, rfl, trivial⟩, hx120⟩
              intro w124 hx125
              have he126 : Ext w w124 := Ext.trans he113 hx125
              have hb59 := Box.ext hb59 hx125
              have hb73 := Box.ext hb73 hx125
              have hz127 := (hx125).size
              refine TL.done ?_
              refine NX.seq ?_
              refine WC.cond rfl ?_ ?_
              · intro hc128
                replace hF := bif_t hc128 hF
                refine WC.seq ?_
                refine WC.region ?_
                refine TL.yld rfl rfl (yld_assign rfl rfl) ?_
                refine TL.done ?_
                refine NX.seq ?_
                refine WC.ret' ?_
                refine NX.blk_r ?_
                refine NX.then_r ?_
                refine NX.then_r ?_
                refine NX.blk_r ?_
                refine NX.then_r ?_
                obtain rfl := Option.some.inj hF
                exact NX.end (rs := [.tmp 2]) (vs := [.bool false]) rfl ⟨rfl, trivial⟩ ⟨_, rfl, rfl, he126⟩
              · intro hc129
                replace hF := bif_f hc129 hF
                refine WC.skip' ?_
                refine NX.blk_n ?_
                refine NX.seq ?_
                refine WC.region ?_
                refine TL.yld rfl rfl (yld_add rfl rfl rfl) ?_
                refine TL.yld rfl rfl (yld_move rfl rfl) ?_
                refine TL.done ?_
                refine NX.then_n ?_
                intro a hK; exact ⟨m60, Nat.lt_succ_self m60, (IntKind.wrap IntKind.i64 (i58 + 1)), hK.weaken ⟨rfl, rfl, rfl, rfl, rfl, trivial⟩, he126, (by omega), hb59, hF⟩
            · intro hc130
              replace hF := bif_f hc130 hF
              refine WC.exit' ?_
              refine NX.then_e ?_
              refine NX.then_e ?_
              refine NX.blk_hit ?_
              refine NX.seq ?_
              refine WC.seq ?_
              refine WC.region ?_
              refine TL.yld rfl rfl (yld_move rfl rfl) ?_
              refine TL.yld rfl rfl (yld_leq rfl rfl rfl) ?_
              refine TL.yld rfl rfl (yld_move rfl rfl) ?_
              refine TL.cut 5 [(75, .bool (((decide (r49 ≤ 12)) && (decide ((a0_s.Links.length : Int) ≤ 60)))))] (fun w' => Ext w56 w') ?_ ?_
              · rcases Bool.eq_false_or_eq_true (decide (r49 ≤ 12)) with hg | hg
                ·
                  refine TL.gy (j := 2) (t := 70) rfl rfl rfl hg rfl (yld_fieldAddr rfl fo_38_1 rfl) ?_
                  refine TL.gy (j := 2) (t := 70) rfl rfl rfl hg rfl (yld_load1 1 rfl ag_36 rfl (Box.cells hb59) rfl rfl) ?_
                  refine TL.gy (j := 2) (t := 70) rfl rfl rfl hg rfl (ye_len (c := C_LatchLink) rfl Try.underlying36 rfl (slRep.old ha4 he57 (Nat.le_refl _))) ?_
                  refine TL.gy (j := 2) (t := 70) rfl rfl rfl hg rfl (yld_leq rfl rfl rfl) ?_
                  refine TL.yld rfl rfl (yld_and_t rfl rfl hg rfl) ?_
                  exact TL.nil fun a h => ⟨h.weaken ⟨rfl, trivial⟩, Ext.refl _⟩
                ·
                  refine TL.gn (j := 2) (t := 70) rfl rfl rfl hg rfl rfl rfl ?_
                  refine TL.gn (j := 2) (t := 70) rfl rfl rfl hg rfl rfl rfl ?_
                  refine TL.gn (j := 2) (t := 70) rfl rfl rfl hg rfl rfl rfl ?_
                  refine TL.gn (j := 2) (t := 70) rfl rfl rfl hg rfl rfl rfl ?_
                  refine TL.yld rfl rfl (yld_and_f (b2 := decide ((a0_s.Links.length : Int) ≤ 60)) rfl rfl hg rfl) ?_
                  exact TL.nil fun a h => ⟨h.weaken ⟨rfl, trivial⟩, Ext.refl _⟩
              intro w131 hx132
              have he133 : Ext w w131 := Ext.trans he57 hx132
              have hb59 := Box.ext hb59 hx132
              have hz134 := (hx132).size
              refine TL.yld rfl rfl (yld_assign rfl rfl) ?_
              refine TL.done ?_
              refine NX.seq ?_
              refine WC.ret' ?_
              obtain rfl := Option.some.inj hF
              exact NX.end (rs := [.tmp 2]) (vs := [.bool (((decide (r49 ≤ 12)) && (decide ((a0_s.Links.length : Int) ≤ 60))))]) rfl ⟨rfl, trivial⟩ ⟨_, rfl, rfl, he133⟩

-- loop.example/g00861/laws.eqLatch
def F_laws_eqLatch (n : Nat) (a0_a : S_Latch) (a1_b : S_Latch) : Option Bool := (bif (a0_a.Open != a1_b.Open) then (some false) else (bif (a0_a.Close != a1_b.Close) then (some false) else (some true)))
theorem W_laws_eqLatch {n : Nat} {a0_a : S_Latch} {a1_b : S_Latch} {r : Bool} {w : World} (hF : F_laws_eqLatch n a0_a a1_b = some r) :
    Calls Try.prog 91 [.agg #[.int .i64 a0_a.Open, .int .i64 a0_a.Close], .agg #[.int .i64 a1_b.Open, .int .i64 a1_b.Close]].toArray w (Ret fun u w2 => u = .bool r ∧ Ext w w2) := by
  refine calls_of Try.func91 rfl Try.ntmps91 ?_
  have he0 : Ext w w := Ext.refl w
  unfold F_laws_eqLatch at hF
  refine WC.seq ?_
  refine WC.region ?_
  refine TL.eff rfl rfl (eff_box rfl rfl) ?_
  rintro _ w2 ⟨b1, rfl, hn3⟩
  obtain ⟨hn3e, hn3s, hn3x, hb4⟩ := hn3
  have hb4 : Box w2 b1 [.int .i64 a0_a.Open, .int .i64 a0_a.Close] 50 := hb4
  have he6 : Ext w w2 := Ext.trans he0 hn3x
  have hz7 := (hn3x).size
  have hlo5 : w.heap.size ≤ b1 := by rw [hn3e]; exact (he0).size
  refine TL.eff rfl rfl (eff_box rfl rfl) ?_
  rintro _ w9 ⟨b8, rfl, hn10⟩
  obtain ⟨hn10e, hn10s, hn10x, hb11⟩ := hn10
  have hb11 : Box w9 b8 [.int .i64 a1_b.Open, .int .i64 a1_b.Close] 50 := hb11
  have he13 : Ext w w9 := Ext.trans he6 hn10x
  have hb4 := Box.ext hb4 hn10x
  have hz14 := (hn10x).size
  have hlo12 : w.heap.size ≤ b8 := by rw [hn10e]; exact (he6).size
  refine TL.yld rfl rfl (yld_assign rfl rfl) ?_
  refine TL.done ?_
  refine NX.seq ?_
  refine WC.seq ?_
  refine WC.seq ?_
  refine WC.region ?_
  refine TL.yld rfl rfl (yld_fieldAddr rfl fo_50_0 rfl) ?_
  refine TL.yld rfl rfl (yld_load1 0 rfl ag_2 rfl (Box.cells hb4) rfl rfl) ?_
  refine TL.yld rfl rfl (yld_fieldAddr rfl fo_50_0 rfl) ?_
  refine TL.yld rfl rfl (yld_load1 0 rfl ag_2 rfl (Box.cells hb11) rfl rfl) ?_
  refine TL.yld rfl rfl (yld_neq rfl rfl rfl) ?_
  refine TL.done ?_
  refine NX.seq ?_
  refine WC.cond rfl ?_ ?_
  · intro hc15
    replace hF := bif_t hc15 hF
    refine WC.seq ?_
    refine WC.region ?_
    refine TL.yld rfl rfl (yld_assign rfl rfl) ?_
    refine TL.done ?_
    refine NX.seq ?_
    refine WC.ret' ?_
    refine NX.then_r ?_
    obtain rfl := Option.some.inj hF
    exact NX.end (rs := [.tmp 4]) (vs := [.bool false]) rfl ⟨rfl, trivial⟩ ⟨_, rfl, rfl, he13⟩
  · intro hc16
    replace hF := bif_f hc16 hF
    refine WC.skip' ?_
    refine NX.seq ?_
    refine WC.seq ?_
    refine WC.seq ?_
    refine WC.region ?_
    refine TL.yld rfl rfl (yld_fieldAddr rfl fo_50_1 rfl) ?_
    refine TL.yld rfl rfl (yld_load1 1 rfl ag_2 rfl (Box.cells hb4) rfl rfl) ?_
    refine TL.yld rfl rfl (yld_fieldAddr rfl fo_50_1 rfl) ?_
    refine TL.yld rfl rfl (yld_load1 1 rfl ag_2 rfl (Box.cells hb11) rfl rfl) ?_
    refine TL.yld rfl rfl (yld_neq rfl rfl rfl) ?_
    refine TL.done ?_
    refine NX.seq ?_
    refine WC.cond rfl ?_ ?_
    · intro hc17
      replace hF := bif_t hc17 hF
      refine WC.seq ?_
      refine WC.region ?_
      refine TL.yld rfl rfl (yld_assign rfl rfl) ?_
      refine TL.done ?_
      refine NX.seq ?_
      refine WC.ret' ?_
      refine NX.then_r ?_
      obtain rfl := Option.some.inj hF
      exact NX.end (rs := [.tmp 4]) (vs := [.bool false]) rfl ⟨rfl, trivial⟩ ⟨_, rfl, rfl, he13⟩
    · intro hc18
      replace hF := bif_f hc18 hF
      refine WC.skip' ?_
      refine NX.seq ?_
      refine WC.seq ?_
      refine WC.region ?_
      refine TL.yld rfl rfl (yld_assign rfl rfl) ?_
      refine TL.done ?_
      refine NX.seq ?_
      refine WC.ret' ?_
      obtain rfl := Option.some.inj hF
      exact NX.end (rs := [.tmp 4]) (vs := [.bool true]) rfl ⟨rfl, trivial⟩ ⟨_, rfl, rfl, he13⟩

-- loop.example/g00861/laws.eqLatchS
def F_laws_eqLatchS_L1 (n : Nat) (a0_a : List S_Latch) (a1_b : List S_Latch) (k0 : Int → Option Bool) : Nat → Int → Option Bool
  | 0 => fun _ => none
  | m + 1 => fun i9 => (bif decide (i9 < (a0_a.length : Int)) then (Option.bind (getI a0_a i9) fun x11 => (Option.bind (getI a1_b i9) fun x18 => (Option.bind (F_laws_eqLatch n x11 x18) fun r25 => (bif (!r25) then (some false) else (F_laws_eqLatchS_L1 n a0_a a1_b k0 m (IntKind.wrap IntKind.i64 (i9 + 1))))))) else (k0 i9))
theorem F_laws_eqLatchS_L1_z (n : Nat) (a0_a : List S_Latch) (a1_b : List S_Latch) (k0 : Int → Option Bool) (i9 : Int) : F_laws_eqLatchS_L1 n a0_a a1_b k0 0 i9 = none := rfl
theorem F_laws_eqLatchS_L1_s (m : Nat) (n : Nat) (a0_a : List S_Latch) (a1_b : List S_Latch) (k0 : Int → Option Bool) (i9 : Int) : F_laws_eqLatchS_L1 n a0_a a1_b k0 (m + 1) i9 = (bif decide (i9 < (a0_a.length : Int)) then (Option.bind (getI a0_a i9) fun x11 => (Option.bind (getI a1_b i9) fun x18 => (Option.bind (F_laws_eqLatch n x11 x18) fun r25 => (bif (!r25) then (some false) else (F_laws_eqLatchS_L1 n a0_a a1_b k0 m (IntKind.wrap IntKind.i64 (i9 + 1))))))) else (k0 i9)) := rfl

def F_laws_eqLatchS (n : Nat) (a0_a : List S_Latch) (a1_b : List S_Latch) : Option Bool := (bif (((a0_a.length : Int)) != ((a1_b.length : Int))) then (some false) else (F_laws_eqLatchS_L1 n a0_a a1_b (fun i9 => (some true)) n 0))
theorem W_laws_eqLatchS {n : Nat} {a0_a : List S_Latch} {a1_b : List S_Latch} {r : Bool} {w : World} {v1 : Value} {v3 : Value} (hF : F_laws_eqLatchS n a0_a a1_b = some r) (ha2 : slRep C_Latch w (Iv 0 w.heap.size) a0_a v1) (ha4 : slRep C_Latch w (Iv 0 w.heap.size) a1_b v3) :
    Calls Try.prog 62 [v1, v3].toArray w (Ret fun u w2 => u = .bool r ∧ Ext w w2) := by
  refine calls_of Try.func62 rfl Try.ntmps62 ?_
  have he0 : Ext w w := Ext.refl w
  unfold F_laws_eqLatchS at hF
  refine WC.seq ?_
  refine WC.region ?_
  refine TL.yld rfl rfl (yld_assign rfl rfl) ?_
  refine TL.done ?_
  refine NX.seq ?_
  refine WC.seq ?_
  refine WC.seq ?_
  refine WC.region ?_
  refine TL.yld rfl rfl (yld_move rfl rfl) ?_
  refine TL.yld rfl rfl (ye_len (c := C_Latch) rfl Try.underlying35 rfl (slRep.old ha2 he0 (Nat.le_refl _))) ?_
  refine TL.yld rfl rfl (yld_move rfl rfl) ?_
  refine TL.yld rfl rfl (ye_len (c := C_Latch) rfl Try.underlying35 rfl (slRep.old ha4 he0 (Nat.le_refl _))) ?_
  refine TL.yld rfl rfl (yld_neq rfl rfl rfl) ?_
  refine TL.done ?_
  refine NX.seq ?_
  refine WC.cond rfl ?_ ?_
  · intro hc5
    replace hF := bif_t hc5 hF
    refine WC.seq ?_
    refine WC.region ?_
    refine TL.yld rfl rfl (yld_assign rfl rfl) ?_
    refine TL.done ?_
    refine NX.seq ?_
    refine WC.ret' ?_
    refine NX.then_r ?_
    obtain rfl := Option.some.inj hF
    exact NX.end (rs := [.tmp 4]) (vs := [.bool false]) rfl ⟨rfl, trivial⟩ ⟨_, rfl, rfl, he0⟩
  · intro hc6
    replace hF := bif_f hc6 hF
    refine WC.skip' ?_
    refine NX.seq ?_
    refine WC.seq ?_
    refine WC.seq ?_
    refine WC.region ?_
    refine TL.yld rfl rfl (yld_assign rfl rfl) ?_
    refine TL.done ?_
    refine NX.seq ?_
    refine WC.block ?_
    refine WC.loop (fun m10 a wl => ∃ (i9 : Int), Kn 27 [(0, v1), (1, v3), (5, .int .i64 i9)] a ∧ Ext w wl ∧ w.heap.size ≤ wl.heap.size ∧ F_laws_eqLatchS_L1 n a0_a a1_b (fun i9 => (some true)) m10 i9 = some r) n ?_ ?_
    · intro a hK; exact ⟨0, hK.weaken ⟨rfl, rfl, rfl, trivial⟩, he0, Nat.le_refl _, hF⟩
    · rintro m10 a w7 ⟨i9, hK, he8, hz11, hF⟩
      revert hK; revert a; refine (?_ : WC _ _ _ _ _ _)
      cases m10 with
      | zero => rw [F_laws_eqLatchS_L1_z] at hF; cases hF
      | succ m10 =>
        rw [F_laws_eqLatchS_L1_s] at hF
        refine WC.seq ?_
        refine WC.seq ?_
        refine WC.region ?_
        refine TL.yld rfl rfl (yld_move rfl rfl) ?_
        refine TL.yld rfl rfl (yld_move rfl rfl) ?_
        refine TL.yld rfl rfl (ye_len (c := C_Latch) rfl Try.underlying35 rfl (slRep.old ha2 he8 (Nat.le_refl _))) ?_
        refine TL.yld rfl rfl (yld_lss rfl rfl rfl) ?_
        refine TL.done ?_
        refine NX.seq ?_
        refine WC.cond rfl ?_ ?_
        · intro hc12
          replace hF := bif_t hc12 hF
          refine WC.skip' ?_
          refine NX.seq ?_
          refine WC.seq ?_
          refine WC.block ?_
          refine WC.seq ?_
          refine WC.quiet Try.hm (by kernel_rfl) ?_
          refine QL.yld rfl rfl (Yld.qui (yld_move rfl rfl)) ?_
          refine QL.yld rfl rfl (Yld.qui (yld_move rfl rfl)) ?_
          obtain ⟨x13, hy14, hF⟩ := bsome hF
          refine QL.ye rfl rfl (ye_index (c := C_Latch) rfl Try.underlying35 cn_50 rfl rfl (slRep.old ha2 he8 (Nat.le_refl _)) hy14) ?_
          rintro _ ⟨b15, o16, us17, rfl, -, hr18, hcl19⟩
          obtain rfl := C_Latch_open hr18
          refine QL.yld rfl rfl (Yld.qui (yld_loadN (us := [.int .i64 x13.Open, .int .i64 x13.Close]) rfl ag_50 rfl hcl19 cn_50)) ?_
          refine QL.yld rfl rfl (Yld.qui (yld_move rfl rfl)) ?_
          refine QL.yld rfl rfl (Yld.qui (yld_move rfl rfl)) ?_
          obtain ⟨x20, hy21, hF⟩ := bsome hF
          refine QL.ye rfl rfl (ye_index (c := C_Latch) rfl Try.underlying35 cn_50 rfl rfl (slRep.old ha4 he8 (Nat.le_refl _)) hy21) ?_
          rintro _ ⟨b22, o23, us24, rfl, -, hr25, hcl26⟩
          obtain rfl := C_Latch_open hr25
          refine QL.yld rfl rfl (Yld.qui (yld_loadN (us := [.int .i64 x20.Open, .int .i64 x20.Close]) rfl ag_50 rfl hcl26 cn_50)) ?_
          obtain ⟨r27, hr28, hF⟩ := bsome hF
          refine QL.yld rfl rfl (qui_call rfl gf_91 rfl fun w' hw' => W_laws_eqLatch hr28) ?_
          refine QL.yld rfl rfl (Yld.qui (yld_not rfl rfl)) ?_
          refine QL.done fun w29 hx30 => ?_
          have he31 : Ext w w29 := Ext.trans he8 hx30
          have hz32 := (hx30).size
          refine NX.seq ?_
          refine WC.cond rfl ?_ ?_
          · intro hc33
            replace hF := bif_t hc33 hF
            refine WC.seq ?_
            refine WC.region ?_
            refine TL.yld rfl rfl (yld_assign rfl rfl) ?_
            refine TL.done ?_
            refine NX.seq ?_
            refine WC.ret' ?_
            refine NX.blk_r ?_
            refine NX.then_r ?_
            refine NX.then_r ?_
            refine NX.blk_r ?_
            refine NX.then_r ?_
            obtain rfl := Option.some.inj hF
            exact NX.end (rs := [.tmp 4]) (vs := [.bool false]) rfl ⟨rfl, trivial⟩ ⟨_, rfl, rfl, he31⟩
          · intro hc34
            replace hF := bif_f hc34 hF
            refine WC.skip' ?_
            refine NX.blk_n ?_
            refine NX.seq ?_
            refine WC.region ?_
            refine TL.yld rfl rfl (yld_move rfl rfl) ?_
            refine TL.yld rfl rfl (yld_add rfl rfl rfl) ?_
            refine TL.yld rfl rfl (yld_assign rfl rfl) ?_
            refine TL.done ?_
            refine NX.then_n ?_
            intro a hK; exact ⟨m10, Nat.lt_succ_self m10, (IntKind.wrap IntKind.i64 (i9 + 1)), hK.weaken ⟨rfl, rfl, rfl, trivial⟩, he31, (by omega), hF⟩
        · intro hc35
          replace hF := bif_f hc35 hF
          refine WC.exit' ?_
          refine NX.then_e ?_
          refine NX.then_e ?_
          refine NX.blk_hit ?_
          refine NX.seq ?_
          refine WC.seq ?_
          refine WC.region ?_
          refine TL.yld rfl rfl (yld_assign rfl rfl) ?_
          refine TL.done ?_
          refine NX.seq ?_
          refine WC.ret' ?_
          obtain rfl := Option.some.inj hF
          exact NX.end (rs := [.tmp 4]) (vs := [.bool true]) rfl ⟨rfl, trivial⟩ ⟨_, rfl, rfl, he8⟩

-- loop.example/g00861/laws.eqLatchLink
def F_laws_eqLatchLink (n : Nat) (a0_a : S_LatchLink) (a1_b : S_LatchLink) : Option Bool := (bif (a0_a.From != a1_b.From) then (some false) else (bif (a0_a.To != a1_b.To) then (some false) else (bif (a0_a.Delay != a1_b.Delay) then (some false) else (bif (a0_a.Shift != a1_b.Shift) then (some false) else (some true)))))
theorem W_laws_eqLatchLink {n : Nat} {a0_a : S_LatchLink} {a1_b : S_LatchLink} {r : Bool} {w : World} (hF : F_laws_eqLatchLink n a0_a a1_b = some r) :
    Calls Try.prog 92 [.agg #[.int .i64 a0_a.From, .int .i64 a0_a.To, .int .i64 a0_a.Delay, .int .i64 a0_a.Shift], .agg #[.int .i64 a1_b.From, .int .i64 a1_b.To, .int .i64 a1_b.Delay, .int .i64 a1_b.Shift]].toArray w (Ret fun u w2 => u = .bool r ∧ Ext w w2) := by
  refine calls_of Try.func92 rfl Try.ntmps92 ?_
  have he0 : Ext w w := Ext.refl w
  unfold F_laws_eqLatchLink at hF
  refine WC.seq ?_
  refine WC.region ?_
  refine TL.eff rfl rfl (eff_box rfl rfl) ?_
  rintro _ w2 ⟨b1, rfl, hn3⟩
  obtain ⟨hn3e, hn3s, hn3x, hb4⟩ := hn3
  have hb4 : Box w2 b1 [.int .i64 a0_a.From, .int .i64 a0_a.To, .int .i64 a0_a.Delay, .int .i64 a0_a.Shift] 77 := hb4
  have he6 : Ext w w2 := Ext.trans he0 hn3x
  have hz7 := (hn3x).size
  have hlo5 : w.heap.size ≤ b1 := by rw [hn3e]; exact (he0).size
  refine TL.eff rfl rfl (eff_box rfl rfl) ?_
  rintro _ w9 ⟨b8, rfl, hn10⟩
  obtain ⟨hn10e, hn10s, hn10x, hb11⟩ := hn10
  have hb11 : Box w9 b8 [.int .i64 a1_b.From, .int .i64 a1_b.To, .int .i64 a1_b.Delay, .int .i64 a1_b.Shift] 77 := hb11
  have he13 : Ext w w9 := Ext.trans he6 hn10x
  have hb4 := Box.ext hb4 hn10x
  have hz14 := (hn10x).size
  have hlo12 : w.heap.size ≤ b8 := by rw [hn10e]; exact (he6).size
  refine TL.yld rfl rfl (yld_assign rfl rfl) ?_
  refine TL.done ?_
  refine NX.seq ?_
  refine WC.seq ?_
  refine WC.seq ?_
  refine WC.region ?_
  refine TL.yld rfl rfl (yld_fieldAddr rfl fo_77_0 rfl) ?_
  refine TL.yld rfl rfl (yld_load1 0 rfl ag_2 rfl (Box.cells hb4) rfl rfl) ?_
  refine TL.yld rfl rfl (yld_fieldAddr rfl fo_77_0 rfl) ?_
  refine TL.yld rfl rfl (yld_load1 0 rfl ag_2 rfl (Box.cells hb11) rfl rfl) ?_
  refine TL.yld rfl rfl (yld_neq rfl rfl rfl) ?_
  refine TL.done ?_
  refine NX.seq ?_
  refine WC.cond rfl ?_ ?_
  · intro hc15
    replace hF := bif_t hc15 hF
    refine WC.seq ?_
    refine WC.region ?_
    refine TL.yld rfl rfl (yld_assign rfl rfl) ?_
    refine TL.done ?_
    refine NX.seq ?_
    refine WC.ret' ?_
    refine NX.then_r ?_
    obtain rfl := Option.some.inj hF
    exact NX.end (rs := [.tmp 4]) (vs := [.bool false]) rfl ⟨rfl, trivial⟩ ⟨_, rfl, rfl, he13⟩
  · intro hc16
    replace hF := bif_f hc16 hF
    refine WC.skip' ?_
    refine NX.seq ?_
    refine WC.seq ?_
    refine WC.seq ?_
    refine WC.region ?_
    refine TL.yld rfl rfl (yld_fieldAddr rfl fo_77_1 rfl) ?_
    refine TL.yld rfl rfl (yld_load1 1 rfl ag_2 rfl (Box.cells hb4) rfl rfl) ?_
    refine TL.yld rfl rfl (yld_fieldAddr rfl fo_77_1 rfl) ?_
    refine TL.yld rfl rfl (yld_load1 1 rfl ag_2 rfl (Box.cells hb11) rfl rfl) ?_
    refine TL.yld rfl rfl (yld_neq rfl rfl rfl) ?_
    refine TL.done ?_
    refine NX.seq ?_
    refine WC.cond rfl ?_ ?_
    · intro hc17
      replace hF := bif_t hc17 hF
      refine WC.seq ?_
      refine WC.region ?_
      refine TL.yld rfl rfl (yld_assign rfl rfl) ?_
      refine TL.done ?_
      refine NX.seq ?_
      refine WC.ret' ?_
      refine NX.then_r ?_
      obtain rfl := Option.some.inj hF
      exact NX.end (rs := [.tmp 4]) (vs := [.bool false]) rfl ⟨rfl, trivial⟩ ⟨_, rfl, rfl, he13⟩
    · intro hc18
      replace hF := bif_f hc18 hF
      refine WC.skip' ?_
      refine NX.seq ?_
      refine WC.seq ?_
      refine WC.seq ?_
      refine WC.region ?_
      refine TL.yld rfl rfl (yld_fieldAddr rfl fo_77_2 rfl) ?_
      refine TL.yld rfl rfl (yld_load1 2 rfl ag_2 rfl (Box.cells hb4) rfl rfl) ?_
      refine TL.yld rfl rfl (yld_fieldAddr rfl fo_77_2 rfl) ?_
      refine TL.yld rfl rfl (yld_load1 2 rfl ag_2 rfl (Box.cells hb11) rfl rfl) ?_
      refine TL.yld rfl rfl (yld_neq rfl rfl rfl) ?_
      refine TL.done ?_
      refine NX.seq ?_
      refine WC.cond rfl ?_ ?_
      · intro hc19
        replace hF := bif_t hc19 hF
        refine WC.seq ?_
        refine WC.region ?_
        refine TL.yld rfl rfl (yld_assign rfl rfl) ?_
        refine TL.done ?_
        refine NX.seq ?_
        refine WC.ret' ?_
        refine NX.then_r ?_
        obtain rfl := Option.some.inj hF
        exact NX.end (rs := [.tmp 4]) (vs := [.bool false]) rfl ⟨rfl, trivial⟩ ⟨_, rfl, rfl, he13⟩
      · intro hc20
        replace hF := bif_f hc20 hF
        refine WC.skip' ?_
        refine NX.seq ?_
        refine WC.seq ?_
        refine WC.seq ?_
        refine WC.region ?_
        refine TL.yld rfl rfl (yld_fieldAddr rfl fo_77_3 rfl) ?_
        refine TL.yld rfl rfl (yld_load1 3 rfl ag_2 rfl (Box.cells hb4) rfl rfl) ?_
        refine TL.yld rfl rfl (yld_fieldAddr rfl fo_77_3 rfl) ?_
        refine TL.yld rfl rfl (yld_load1 3 rfl ag_2 rfl (Box.cells hb11) rfl rfl) ?_
        refine TL.yld rfl rfl (yld_neq rfl rfl rfl) ?_
        refine TL.done ?_
        refine NX.seq ?_
        refine WC.cond rfl ?_ ?_
        · intro hc21
          replace hF := bif_t hc21 hF
          refine WC.seq ?_
          refine WC.region ?_
          refine TL.yld rfl rfl (yld_assign rfl rfl) ?_
          refine TL.done ?_
          refine NX.seq ?_
          refine WC.ret' ?_
          refine NX.then_r ?_
          obtain rfl := Option.some.inj hF
          exact NX.end (rs := [.tmp 4]) (vs := [.bool false]) rfl ⟨rfl, trivial⟩ ⟨_, rfl, rfl, he13⟩
        · intro hc22
          replace hF := bif_f hc22 hF
          refine WC.skip' ?_
          refine NX.seq ?_
          refine WC.seq ?_
          refine WC.region ?_
          refine TL.yld rfl rfl (yld_assign rfl rfl) ?_
          refine TL.done ?_
          refine NX.seq ?_
          refine WC.ret' ?_
          obtain rfl := Option.some.inj hF
          exact NX.end (rs := [.tmp 4]) (vs := [.bool true]) rfl ⟨rfl, trivial⟩ ⟨_, rfl, rfl, he13⟩

-- loop.example/g00861/laws.eqLatchLinkS
def F_laws_eqLatchLinkS_L1 (n : Nat) (a0_a : List S_LatchLink) (a1_b : List S_LatchLink) (k0 : Int → Option Bool) : Nat → Int → Option Bool
  | 0 => fun _ => none
  | m + 1 => fun i9 => (bif decide (i9 < (a0_a.length : Int)) then (Option.bind (getI a0_a i9) fun x11 => (Option.bind (getI a1_b i9) fun x18 => (Option.bind (F_laws_eqLatchLink n x11 x18) fun r25 => (bif (!r25) then (some false) else (F_laws_eqLatchLinkS_L1 n a0_a a1_b k0 m (IntKind.wrap IntKind.i64 (i9 + 1))))))) else (k0 i9))
theorem F_laws_eqLatchLinkS_L1_z (n : Nat) (a0_a : List S_LatchLink) (a1_b : List S_LatchLink) (k0 : Int → Option Bool) (i9 : Int) : F_laws_eqLatchLinkS_L1 n a0_a a1_b k0 0 i9 = none := rfl
theorem F_laws_eqLatchLinkS_L1_s (m : Nat) (n : Nat) (a0_a : List S_LatchLink) (a1_b : List S_LatchLink) (k0 : Int → Option Bool) (i9 : Int) : F_laws_eqLatchLinkS_L1 n a0_a a1_b k0 (m + 1) i9 = (bif decide (i9 < (a0_a.length : Int)) then (Option.bind (getI a0_a i9) fun x11 => (Option.bind (getI a1_b i9) fun x18 => (Option.bind (F_laws_eqLatchLink n x11 x18) fun r25 => (bif (!r25) then (some false) else (F_laws_eqLatchLinkS_L1 n a0_a a1_b k0 m (IntKind.wrap IntKind.i64 (i9 + 1))))))) else (k0 i9)) := rfl

def F_laws_eqLatchLinkS (n : Nat) (a0_a : List S_LatchLink) (a1_b : List S_LatchLink) : Option Bool := (bif (((a0_a.length : Int)) != ((a1_b.length : Int))) then (some false) else (F_laws_eqLatchLinkS_L1 n a0_a a1_b (fun i9 => (some true)) n 0))
theorem W_laws_eqLatchLinkS {n : Nat} {a0_a : List S_LatchLink} {a1_b : List S_LatchLink} {r : Bool} {w : World} {v1 : Value} {v3 : Value} (hF : F_laws_eqLatchLinkS n a0_a a1_b = some r) (ha2 : slRep C_LatchLink w (Iv 0 w.heap.size) a0_a v1) (ha4 : slRep C_LatchLink w (Iv 0 w.heap.size) a1_b v3) :
    Calls Try.prog 63 [v1, v3].toArray w (Ret fun u w2 => u = .bool r ∧ Ext w w2) := by
  refine calls_of Try.func63 rfl Try.ntmps63 ?_
  have he0 : Ext w w := Ext.refl w
  unfold F_laws_eqLatchLinkS at hF
  refine WC.seq ?_
  refine WC.region ?_
  refine TL.yld rfl rfl (yld_assign rfl rfl) ?_
  refine TL.done ?_
  refine NX.seq ?_
  refine WC.seq ?_
  refine WC.seq ?_
  refine WC.region ?_
  refine TL.yld rfl rfl (yld_move rfl rfl) ?_
  refine TL.yld rfl rfl (ye_len (c := C_LatchLink) rfl Try.underlying36 rfl (slRep.old ha2 he0 (Nat.le_refl _))) ?_
  refine TL.yld rfl rfl (yld_move rfl rfl) ?_
  refine TL.yld rfl rfl (ye_len (c := C_LatchLink) rfl Try.underlying36 rfl (slRep.old ha4 he0 (Nat.le_refl _))) ?_
  refine TL.yld rfl rfl (yld_neq rfl rfl rfl) ?_
  refine TL.done ?_
  refine NX.seq ?_
  refine WC.cond rfl ?_ ?_
  · intro hc5
    replace hF := bif_t hc5 hF
    refine WC.seq ?_
    refine WC.region ?_
    refine TL.yld rfl rfl (yld_assign rfl rfl) ?_
    refine TL.done ?_
    refine NX.seq ?_
    refine WC.ret' ?_
    refine NX.then_r ?_
    obtain rfl := Option.some.inj hF
    exact NX.end (rs := [.tmp 4]) (vs := [.bool false]) rfl ⟨rfl, trivial⟩ ⟨_, rfl, rfl, he0⟩
  · intro hc6
    replace hF := bif_f hc6 hF
    refine WC.skip' ?_
    refine NX.seq ?_
    refine WC.seq ?_
    refine WC.seq ?_
    refine WC.region ?_
    refine TL.yld rfl rfl (yld_assign rfl rfl) ?_
    refine TL.done ?_
    refine NX.seq ?_
    refine WC.block ?_
    refine WC.loop (fun m10 a wl => ∃ (i9 : Int), Kn 27 [(0, v1), (1, v3), (5, .int .i64 i9)] a ∧ Ext w wl ∧ w.heap.size ≤ wl.heap.size ∧ F_laws_eqLatchLinkS_L1 n a0_a a1_b (fun i9 => (some true)) m10 i9 = some r) n ?_ ?_
    · intro a hK; exact ⟨0, hK.weaken ⟨rfl, rfl, rfl, trivial⟩, he0, Nat.le_refl _, hF⟩
    · rintro m10 a w7 ⟨i9, hK, he8, hz11, hF⟩
      revert hK; revert a; refine (?_ : WC _ _ _ _ _ _)
      cases m10 with
      | zero => rw [F_laws_eqLatchLinkS_L1_z] at hF; cases hF
      | succ m10 =>
        rw [F_laws_eqLatchLinkS_L1_s] at hF
        refine WC.seq ?_
        refine WC.seq ?_
        refine WC.region ?_
        refine TL.yld rfl rfl (yld_move rfl rfl) ?_
        refine TL.yld rfl rfl (yld_move rfl rfl) ?_
        refine TL.yld rfl rfl (ye_len (c := C_LatchLink) rfl Try.underlying36 rfl (slRep.old ha2 he8 (Nat.le_refl _))) ?_
        refine TL.yld rfl rfl (yld_lss rfl rfl rfl) ?_
        refine TL.done ?_
        refine NX.seq ?_
        refine WC.cond rfl ?_ ?_
        · intro hc12
          replace hF := bif_t hc12 hF
          refine WC.skip' ?_
          refine NX.seq ?_
          refine WC.seq ?_
          refine WC.block ?_
          refine WC.seq ?_
          refine WC.quiet Try.hm (by kernel_rfl) ?_
          refine QL.yld rfl rfl (Yld.qui (yld_move rfl rfl)) ?_
          refine QL.yld rfl rfl (Yld.qui (yld_move rfl rfl)) ?_
          obtain ⟨x13, hy14, hF⟩ := bsome hF
          refine QL.ye rfl rfl (ye_index (c := C_LatchLink) rfl Try.underlying36 cn_77 rfl rfl (slRep.old ha2 he8 (Nat.le_refl _)) hy14) ?_
          rintro _ ⟨b15, o16, us17, rfl, -, hr18, hcl19⟩
          obtain rfl := C_LatchLink_open hr18
          refine QL.yld rfl rfl (Yld.qui (yld_loadN (us := [.int .i64 x13.From, .int .i64 x13.To, .int .i64 x13.Delay, .int .i64 x13.Shift]) rfl ag_77 rfl hcl19 cn_77)) ?_
          refine QL.yld rfl rfl (Yld.qui (yld_move rfl rfl)) ?_
          refine QL.yld rfl rfl (Yld.qui (yld_move rfl rfl)) ?_
          obtain ⟨x20, hy21, hF⟩ := bsome hF
          refine QL.ye rfl rfl (ye_index (c := C_LatchLink) rfl Try.underlying36 cn_77 rfl rfl (slRep.old ha4 he8 (Nat.le_refl _)) hy21) ?_
          rintro _ ⟨b22, o23, us24, rfl, -, hr25, hcl26⟩
          obtain rfl := C_LatchLink_open hr25
          refine QL.yld rfl rfl (Yld.qui (yld_loadN (us := [.int .i64 x20.From, .int .i64 x20.To, .int .i64 x20.Delay, .int .i64 x20.Shift]) rfl ag_77 rfl hcl26 cn_77)) ?_
          obtain ⟨r27, hr28, hF⟩ := bsome hF
          refine QL.yld rfl rfl (qui_call rfl gf_92 rfl fun w' hw' => W_laws_eqLatchLink hr28) ?_
          refine QL.yld rfl rfl (Yld.qui (yld_not rfl rfl)) ?_
          refine QL.done fun w29 hx30 => ?_
          have he31 : Ext w w29 := Ext.trans he8 hx30
          have hz32 := (hx30).size
          refine NX.seq ?_
          refine WC.cond rfl ?_ ?_
          · intro hc33
            replace hF := bif_t hc33 hF
            refine WC.seq ?_
            refine WC.region ?_
            refine TL.yld rfl rfl (yld_assign rfl rfl) ?_
            refine TL.done ?_
            refine NX.seq ?_
            refine WC.ret' ?_
            refine NX.blk_r ?_
            refine NX.then_r ?_
            refine NX.then_r ?_
            refine NX.blk_r ?_
            refine NX.then_r ?_
            obtain rfl := Option.some.inj hF
            exact NX.end (rs := [.tmp 4]) (vs := [.bool false]) rfl ⟨rfl, trivial⟩ ⟨_, rfl, rfl, he31⟩
          · intro hc34
            replace hF := bif_f hc34 hF
            refine WC.skip' ?_
            refine NX.blk_n ?_
            refine NX.seq ?_
            refine WC.region ?_
            refine TL.yld rfl rfl (yld_move rfl rfl) ?_
            refine TL.yld rfl rfl (yld_add rfl rfl rfl) ?_
            refine TL.yld rfl rfl (yld_assign rfl rfl) ?_
            refine TL.done ?_
            refine NX.then_n ?_
            intro a hK; exact ⟨m10, Nat.lt_succ_self m10, (IntKind.wrap IntKind.i64 (i9 + 1)), hK.weaken ⟨rfl, rfl, rfl, trivial⟩, he31, (by omega), hF⟩
        · intro hc35
          replace hF := bif_f hc35 hF
          refine WC.exit' ?_
          refine NX.then_e ?_
          refine NX.then_e ?_
          refine NX.blk_hit ?_
          refine NX.seq ?_
          refine WC.seq ?_
          refine WC.region ?_
          refine TL.yld rfl rfl (yld_assign rfl rfl) ?_
          refine TL.done ?_
          refine NX.seq ?_
          refine WC.ret' ?_
          obtain rfl := Option.some.inj hF
          exact NX.end (rs := [.tmp 4]) (vs := [.bool true]) rfl ⟨rfl, trivial⟩ ⟨_, rfl, rfl, he8⟩

-- loop.example/g00861/laws.eqLatchSystem
def F_laws_eqLatchSystem (n : Nat) (a0_a : S_LatchSystem) (a1_b : S_LatchSystem) : Option Bool := (Option.bind (F_laws_eqLatchS n a0_a.Latches a1_b.Latches) fun r23 => (bif (!r23) then (some false) else (Option.bind (F_laws_eqLatchLinkS n a0_a.Links a1_b.Links) fun r32 => (bif (!r32) then (some false) else (some true)))))
theorem W_laws_eqLatchSystem {n : Nat} {a0_a : S_LatchSystem} {a1_b : S_LatchSystem} {r : Bool} {w : World} {v1 : Value} {v3 : Value} {v5 : Value} {v7 : Value} (hF : F_laws_eqLatchSystem n a0_a a1_b = some r) (ha2 : slRep C_Latch w (Iv 0 w.heap.size) a0_a.Latches v1) (ha4 : slRep C_LatchLink w (Iv 0 w.heap.size) a0_a.Links v3) (ha6 : slRep C_Latch w (Iv 0 w.heap.size) a1_b.Latches v5) (ha8 : slRep C_LatchLink w (Iv 0 w.heap.size) a1_b.Links v7) :
    Calls Try.prog 22 [.agg #[v1, v3], .agg #[v5, v7]].toArray w (Ret fun u w2 => u = .bool r ∧ Ext w w2) := by
  refine calls_of Try.func22 rfl Try.ntmps22 ?_
  have he0 : Ext w w := Ext.refl w
  unfold F_laws_eqLatchSystem at hF
  refine WC.seq ?_
  refine WC.region ?_
  refine TL.eff rfl rfl (eff_box rfl rfl) ?_
  rintro _ w10 ⟨b9, rfl, hn11⟩
  obtain ⟨hn11e, hn11s, hn11x, hb12⟩ := hn11
  have hb12 : Box w10 b9 [v1, v3] 38 := hb12
  have he14 : Ext w w10 := Ext.trans he0 hn11x
  have hz15 := (hn11x).size
  have hlo13 : w.heap.size ≤ b9 := by rw [hn11e]; exact (he0).size
  refine TL.eff rfl rfl (eff_box rfl rfl) ?_
  rintro _ w17 ⟨b16, rfl, hn18⟩
  obtain ⟨hn18e, hn18s, hn18x, hb19⟩ := hn18
  have hb19 : Box w17 b16 [v5, v7] 38 := hb19
  have he21 : Ext w w17 := Ext.trans he14 hn18x
  have hb12 := Box.ext hb12 hn18x
  have hz22 := (hn18x).size
  have hlo20 : w.heap.size ≤ b16 := by rw [hn18e]; exact (he14).size
  refine TL.yld rfl rfl (yld_assign rfl rfl) ?_
  refine TL.done ?_
  refine NX.seq ?_
  refine WC.seq ?_
  refine WC.seq ?_
  refine WC.region ?_
  refine TL.yld rfl rfl (yld_fieldAddr rfl fo_38_0 rfl) ?_
  refine TL.yld rfl rfl (yld_load1 0 rfl ag_35 rfl (Box.cells hb12) rfl rfl) ?_
  refine TL.yld rfl rfl (yld_fieldAddr rfl fo_38_0 rfl) ?_
  refine TL.yld rfl rfl (yld_load1 0 rfl ag_35 rfl (Box.cells hb19) rfl rfl) ?_
  obtain ⟨r23, hr24, hF⟩ := bsome hF
  refine TL.eff rfl rfl (eff_call rfl gf_62 rfl (W_laws_eqLatchS hr24 ((slRep.old ha2 he21 (Nat.le_refl _)).wide (Nat.le_refl _) (he21).size) ((slRep.old ha6 he21 (Nat.le_refl _)).wide (Nat.le_refl _) (he21).size))) ?_
  rintro _ w25 ⟨rfl, hx26⟩
  have he28 : Ext w w25 := Ext.trans he21 hx26
  have hb12 := Box.ext hb12 hx26
  have hb19 := Box.ext hb19 hx26
  have hz29 := (hx26).size
  refine TL.yld rfl rfl (yld_not rfl rfl) ?_
  refine TL.done ?_
  refine NX.seq ?_
  refine WC.cond rfl ?_ ?_
  · intro hc30
    replace hF := bif_t hc30 hF
    refine WC.seq ?_
    refine WC.region ?_
    refine TL.yld rfl rfl (yld_assign rfl rfl) ?_
    refine TL.done ?_
    refine NX.seq ?_
    refine WC.ret' ?_
    refine NX.then_r ?_
    obtain rfl := Option.some.inj hF
    exact NX.end (rs := [.tmp 4]) (vs := [.bool false]) rfl ⟨rfl, trivial⟩ ⟨_, rfl, rfl, he28⟩
  · intro hc31
    replace hF := bif_f hc31 hF
    refine WC.skip' ?_
    refine NX.seq ?_
    refine WC.seq ?_
    refine WC.seq ?_
    refine WC.region ?_
    refine TL.yld rfl rfl (yld_fieldAddr rfl fo_38_1 rfl) ?_
    refine TL.yld rfl rfl (yld_load1 1 rfl ag_36 rfl (Box.cells hb12) rfl rfl) ?_
    refine TL.yld rfl rfl (yld_fieldAddr rfl fo_38_1 rfl) ?_
    refine TL.yld rfl rfl (yld_load1 1 rfl ag_36 rfl (Box.cells hb19) rfl rfl) ?_
    obtain ⟨r32, hr33, hF⟩ := bsome hF
    refine TL.eff rfl rfl (eff_call rfl gf_63 rfl (W_laws_eqLatchLinkS hr33 ((slRep.old ha4 he28 (Nat.le_refl _)).wide (Nat.le_refl _) (he28).size) ((slRep.old ha8 he28 (Nat.le_refl _)).wide (Nat.le_refl _) (he28).size))) ?_
    rintro _ w34 ⟨rfl, hx35⟩
    have he37 : Ext w w34 := Ext.trans he28 hx35
    have hb12 := Box.ext hb12 hx35
    have hb19 := Box.ext hb19 hx35
    have hz38 := (hx35).size
    refine TL.yld rfl rfl (yld_not rfl rfl) ?_
    refine TL.done ?_
    refine NX.seq ?_
    refine WC.cond rfl ?_ ?_
    · intro hc39
      replace hF := bif_t hc39 hF
      refine WC.seq ?_
      refine WC.region ?_
      refine TL.yld rfl rfl (yld_assign rfl rfl) ?_
      refine TL.done ?_
      refine NX.seq ?_
      refine WC.ret' ?_
      refine NX.then_r ?_
      obtain rfl := Option.some.inj hF
      exact NX.end (rs := [.tmp 4]) (vs := [.bool false]) rfl ⟨rfl, trivial⟩ ⟨_, rfl, rfl, he37⟩
    · intro hc40
      replace hF := bif_f hc40 hF
      refine WC.skip' ?_
      refine NX.seq ?_
      refine WC.seq ?_
      refine WC.region ?_
      refine TL.yld rfl rfl (yld_assign rfl rfl) ?_
      refine TL.done ?_
      refine NX.seq ?_
      refine WC.ret' ?_
      obtain rfl := Option.some.inj hF
      exact NX.end (rs := [.tmp 4]) (vs := [.bool true]) rfl ⟨rfl, trivial⟩ ⟨_, rfl, rfl, he37⟩

-- loop.example/g00861/laws.FnExactIsLatchSystem
def F_laws_FnExactIsLatchSystem (n : Nat) (a0_aS : S_LatchSystem) : Option Bool := (Option.bind (F_laws_szLatchSystem n a0_aS 1048576) fun r12 => (bif decide (r12 < 0) then (some true) else (Option.bind (F_laws_toLatchSystem n a0_aS) fun r21 => (Option.bind (F_spec_IsLatchSystem n r21) fun r34 => (Option.bind (F_laws_toLatchSystem n a0_aS) fun r41 => (Option.bind (F_impl_IsLatchSystem n r41) fun r66 => (bif (r66 != r34) then (some false) else (Option.bind (F_laws_toLatchSystem n a0_aS) fun r75 => (Option.bind (F_laws_eqLatchSystem n r41 r75) fun r88 => (bif (!r88) then (some false) else (some true)))))))))))
theorem W_laws_FnExactIsLatchSystem {n : Nat} {a0_aS : S_LatchSystem} {r : Bool} {w : World} {v1 : Value} {v3 : Value} (hF : F_laws_FnExactIsLatchSystem n a0_aS = some r) (ha2 : slRep C_Latch w (Iv 0 w.heap.size) a0_aS.Latches v1) (ha4 : slRep C_LatchLink w (Iv 0 w.heap.size) a0_aS.Links v3) :
    Calls Try.prog 4 [.agg #[v1, v3]].toArray w (Ret fun u w2 => u = .bool r ∧ Ext w w2) := by
  refine calls_of Try.func4 rfl Try.ntmps4 ?_
  have he0 : Ext w w := Ext.refl w
  unfold F_laws_FnExactIsLatchSystem at hF
  refine WC.seq ?_
  refine WC.region ?_
  refine TL.eff rfl rfl (eff_box rfl rfl) ?_
  rintro _ w6 ⟨b5, rfl, hn7⟩
  obtain ⟨hn7e, hn7s, hn7x, hb8⟩ := hn7
  have hb8 : Box w6 b5 [v1, v3] 32 := hb8
  have he10 : Ext w w6 := Ext.trans he0 hn7x
  have hz11 := (hn7x).size
  have hlo9 : w.heap.size ≤ b5 := by rw [hn7e]; exact (he0).size
  refine TL.yld rfl rfl (yld_assign rfl rfl) ?_
  refine TL.done ?_
  refine NX.seq ?_
  refine WC.seq ?_
  refine WC.region ?_
  refine TL.yld rfl rfl (yld_assign rfl rfl) ?_
  refine TL.done ?_
  refine NX.seq ?_
  refine WC.seq ?_
  refine WC.region ?_
  refine TL.yld rfl rfl (yld_loadN (us := [v1, v3]) rfl ag_32 rfl (Box.cells hb8) cn_32) ?_
  refine TL.yld rfl rfl (yld_move rfl rfl) ?_
  obtain ⟨r12, hr13, hF⟩ := bsome hF
  refine TL.eff rfl rfl (eff_call rfl gf_18 rfl (W_laws_szLatchSystem hr13 ((slRep.old ha2 he10 (Nat.le_refl _)).wide (Nat.le_refl _) (he10).size) ((slRep.old ha4 he10 (Nat.le_refl _)).wide (Nat.le_refl _) (he10).size))) ?_
  rintro _ w14 ⟨rfl, hx15⟩
  have he17 : Ext w w14 := Ext.trans he10 hx15
  have hb8 := Box.ext hb8 hx15
  have hz18 := (hx15).size
  refine TL.yld rfl rfl (yld_assign rfl rfl) ?_
  refine TL.done ?_
  refine NX.seq ?_
  refine WC.seq ?_
  refine WC.seq ?_
  refine WC.region ?_
  refine TL.yld rfl rfl (yld_move rfl rfl) ?_
  refine TL.yld rfl rfl (yld_lss rfl rfl rfl) ?_
  refine TL.done ?_
  refine NX.seq ?_
  refine WC.cond rfl ?_ ?_
  · intro hc19
    replace hF := bif_t hc19 hF
    refine WC.seq ?_
    refine WC.region ?_
    refine TL.yld rfl rfl (yld_assign rfl rfl) ?_
    refine TL.done ?_
    refine NX.seq ?_
    refine WC.ret' ?_
    refine NX.then_r ?_
    obtain rfl := Option.some.inj hF
    exact NX.end (rs := [.tmp 2]) (vs := [.bool true]) rfl ⟨rfl, trivial⟩ ⟨_, rfl, rfl, he17⟩
  · intro hc20
    replace hF := bif_f hc20 hF
    refine WC.skip' ?_
    refine NX.seq ?_
    refine WC.seq ?_
    refine WC.region ?_
    refine TL.yld rfl rfl (yld_loadN (us := [v1, v3]) rfl ag_32 rfl (Box.cells hb8) cn_32) ?_
    obtain ⟨r21, hr22, hF⟩ := bsome hF
    refine TL.eff rfl rfl (eff_call rfl gf_20 rfl (W_laws_toLatchSystem hr22 ((slRep.old ha2 he17 (Nat.le_refl _)).wide (Nat.le_refl _) (he17).size) ((slRep.old ha4 he17 (Nat.le_refl _)).wide (Nat.le_refl _) (he17).size))) ?_
    rintro _ w23 ⟨⟨us26, rfl, hr27⟩, hx24⟩
    have he32 : Ext w w23 := Ext.trans he17 hx24
    have hb8 := Box.ext hb8 hx24
    have hz33 := (hx24).size
    obtain ⟨v28, v29, rfl, hs30, hs31⟩ := C_LatchSystem_open hr27
    obtain ⟨r34, hr35, hF⟩ := bsome hF
    refine TL.eff rfl rfl (eff_call rfl gf_19 rfl (W_spec_IsLatchSystem hr35 (hs30.wide (Nat.zero_le _) (by omega)) (hs31.wide (Nat.zero_le _) (by omega)))) ?_
    rintro _ w36 ⟨rfl, hx37⟩
    have he39 : Ext w w36 := Ext.trans he32 hx37
    have hb8 := Box.ext hb8 hx37
    have hs30 := slRep.old hs30 hx37 (by omega)
    have hs31 := slRep.old hs31 hx37 (by omega)
    have hz40 := (hx37).size
    refine TL.yld rfl rfl (yld_assign rfl rfl) ?_
    refine TL.done ?_
    refine NX.seq ?_
    refine WC.seq ?_
    refine WC.region ?_
    refine TL.yld rfl rfl (yld_loadN (us := [v1, v3]) rfl ag_32 rfl (Box.cells hb8) cn_32) ?_
    obtain ⟨r41, hr42, hF⟩ := bsome hF
    refine TL.eff rfl rfl (eff_call rfl gf_20 rfl (W_laws_toLatchSystem hr42 ((slRep.old ha2 he39 (Nat.le_refl _)).wide (Nat.le_refl _) (he39).size) ((slRep.old ha4 he39 (Nat.le_refl _)).wide (Nat.le_refl _) (he39).size))) ?_
    rintro _ w43 ⟨⟨us46, rfl, hr47⟩, hx44⟩
    have he52 : Ext w w43 := Ext.trans he39 hx44
    have hb8 := Box.ext hb8 hx44
    have hs30 := slRep.old hs30 hx44 (by omega)
    have hs31 := slRep.old hs31 hx44 (by omega)
    have hz53 := (hx44).size
    obtain ⟨v48, v49, rfl, hs50, hs51⟩ := C_LatchSystem_open hr47
    refine TL.eff rfl rfl (eff_alloc rfl zn_38) ?_
    rintro _ w55 ⟨b54, rfl, hn56⟩
    obtain ⟨hn56e, hn56s, hn56x, hb57⟩ := hn56
    have hb57 : Box w55 b54 [.slice none 0 0, .slice none 0 0] 38 := hb57
    have he59 : Ext w w55 := Ext.trans he52 hn56x
    have hb8 := Box.ext hb8 hn56x
    have hs30 := slRep.old hs30 hn56x (by omega)
    have hs31 := slRep.old hs31 hn56x (by omega)
    have hs50 := slRep.old hs50 hn56x (by omega)
    have hs51 := slRep.old hs51 hn56x (by omega)
    have hz60 := (hn56x).size
    have hlo58 : w.heap.size ≤ b54 := by rw [hn56e]; exact (he52).size
    refine TL.eff rfl rfl (eff_store rfl rfl rfl hb57 cn_38 (allc_cons (slRep.one hs50) (allc_cons (slRep.one hs51) allc_nil)) rfl) ?_
    rintro _ w61 ⟨hu62, hb63⟩
    have he64 : Ext w w61 := Below.trans he59 (Upd.below hu62 hlo58)
    have hb8 := Box.upd hb8 hu62 (by omega)
    have hs30 := slRep.upd hs30 hu62 (by omega)
    have hs31 := slRep.upd hs31 hu62 (by omega)
    have hs50 := slRep.upd hs50 hu62 (by omega)
    have hs51 := slRep.upd hs51 hu62 (by omega)
    have hz65 := (hu62).size
    have hb57 : Box w61 b54 [v48, v49] 38 := hb63
    refine TL.done ?_
    refine NX.seq ?_
    refine WC.seq ?_
    refine WC.region ?_
    refine TL.yld rfl rfl (yld_loadN (us := [v48, v49]) rfl ag_38 rfl (Box.cells hb57) cn_38) ?_
    obtain ⟨r66, hr67, hF⟩ := bsome hF
    refine TL.eff rfl rfl (eff_call rfl gf_21 rfl (W_impl_IsLatchSystem hr67 (hs50.wide (Nat.zero_le _) (by omega)) (hs51.wide (Nat.zero_le _) (by omega)))) ?_
    rintro _ w68 ⟨rfl, hx69⟩
    have he71 : Ext w w68 := Ext.trans he64 hx69
    have hb8 := Box.ext hb8 hx69
    have hb57 := Box.ext hb57 hx69
    have hs30 := slRep.old hs30 hx69 (by omega)
    have hs31 := slRep.old hs31 hx69 (by omega)
    have hs50 := slRep.old hs50 hx69 (by omega)
    have hs51 := slRep.old hs51 hx69 (by omega)
    have hz72 := (hx69).size
    refine TL.yld rfl rfl (yld_assign rfl rfl) ?_
    refine TL.done ?_
    refine NX.seq ?_
    refine WC.seq ?_
    refine WC.seq ?_
    refine WC.region ?_
    refine TL.yld rfl rfl (yld_move rfl rfl) ?_
    refine TL.yld rfl rfl (yld_move rfl rfl) ?_
    refine TL.yld rfl rfl (yld_neb rfl Try.underlying4 rfl rfl) ?_
    refine TL.done ?_
    refine NX.seq ?_
    refine WC.cond rfl ?_ ?_
    · intro hc73
      replace hF := bif_t hc73 hF
      refine WC.seq ?_
      refine WC.region ?_
      refine TL.yld rfl rfl (yld_assign rfl rfl) ?_
      refine TL.done ?_
      refine NX.seq ?_
      refine WC.ret' ?_
      refine NX.then_r ?_
      obtain rfl := Option.some.inj hF
      exact NX.end (rs := [.tmp 2]) (vs := [.bool false]) rfl ⟨rfl, trivial⟩ ⟨_, rfl, rfl, he71⟩
    · intro hc74
      replace hF := bif_f hc74 hF
      refine WC.skip' ?_
      refine NX.seq ?_
      refine WC.seq ?_
      refine WC.seq ?_
      obtain ⟨r75, hr76, hF⟩ := bsome hF
      obtain ⟨r88, hr89, hF⟩ := bsome hF
      refine WC.held 3 Try.hm fun w95 hx96 => ?_
      have he97 : Ext w w95 := Ext.trans he71 hx96
      have hb8 := Box.ext hb8 hx96
      have hb57 := Box.ext hb57 hx96
      have hs30 := slRep.old hs30 hx96 (by omega)
      have hs31 := slRep.old hs31 hx96 (by omega)
      have hs50 := slRep.old hs50 hx96 (by omega)
      have hs51 := slRep.old hs51 hx96 (by omega)
      have hz98 := (hx96).size
      refine HL.yld 0 (by kernel_rfl) rfl (by kernel_rfl) rfl rfl (yld_loadN (us := [v48, v49]) rfl ag_38 rfl (Box.cells hb57) cn_38) ?_
      refine HL.yld 1 (by kernel_rfl) rfl (by kernel_rfl) rfl rfl (yld_loadN (us := [v1, v3]) rfl ag_32 rfl (Box.cells hb8) cn_32) ?_
      refine HL.eff 2 rfl rfl (by kernel_rfl) rfl rfl (eff_call rfl gf_20 rfl (W_laws_toLatchSystem hr76 ((slRep.old ha2 he97 (Nat.le_refl _)).wide (Nat.le_refl _) (he97).size) ((slRep.old ha4 he97 (Nat.le_refl _)).wide (Nat.le_refl _) (he97).size))) ?_
      rintro _ w99 ⟨⟨us102, rfl, hr103⟩, hx100⟩
      have hbs108 : Ext w95 w99 := Ext.trans (Ext.refl w95) hx100
      have he109 : Ext w w99 := Ext.trans he97 hx100
      have hb8 := Box.ext hb8 hx100
      have hb57 := Box.ext hb57 hx100
      have hs30 := slRep.old hs30 hx100 (by omega)
      have hs31 := slRep.old hs31 hx100 (by omega)
      have hs50 := slRep.old hs50 hx100 (by omega)
      have hs51 := slRep.old hs51 hx100 (by omega)
      have hz110 := (hx100).size
      obtain ⟨v104, v105, rfl, hs106, hs107⟩ := C_LatchSystem_open hr103
      refine ⟨hbs108, ?_⟩
      refine HL.tail rfl (by kernel_rfl) rfl ?_
      refine TL.eff rfl rfl (eff_call rfl gf_22 rfl (W_laws_eqLatchSystem hr89 (hs50.wide (Nat.zero_le _) (by omega)) (hs51.wide (Nat.zero_le _) (by omega)) (hs106.wide (Nat.zero_le _) (by omega)) (hs107.wide (Nat.zero_le _) (by omega)))) ?_
      rintro _ w111 ⟨rfl, hx112⟩
      have he114 : Ext w w111 := Ext.trans he109 hx112
      have hb8 := Box.ext hb8 hx112
      have hb57 := Box.ext hb57 hx112
      have hs30 := slRep.old hs30 hx112 (by omega)
      have hs31 := slRep.old hs31 hx112 (by omega)
      have hs50 := slRep.old hs50 hx112 (by omega)
      have hs51 := slRep.old hs51 hx112 (by omega)
      have hs106 := slRep.old hs106 hx112 (by omega)
      have hs107 := slRep.old hs107 hx112 (by omega)
      have hz115 := (hx112).size
      refine TL.yld rfl rfl (yld_not rfl rfl) ?_
      refine TL.noPan (l := []) ?_
      refine NX.seq ?_
      refine WC.cond rfl ?_ ?_
      · intro hc116
        replace hF := bif_t hc116 hF
        refine WC.seq ?_
        refine WC.region ?_
        refine TL.yld rfl rfl (yld_assign rfl rfl) ?_
        refine TL.done ?_
        refine NX.seq ?_
        refine WC.ret' ?_
        refine NX.then_r ?_
        obtain rfl := Option.some.inj hF
        exact NX.end (rs := [.tmp 2]) (vs := [.bool false]) rfl ⟨rfl, trivial⟩ ⟨_, rfl, rfl, he114⟩
      · intro hc117
        replace hF := bif_f hc117 hF
        refine WC.skip' ?_
        refine NX.seq ?_
        refine WC.seq ?_
        refine WC.region ?_
        refine TL.yld rfl rfl (yld_assign rfl rfl) ?_
        refine TL.done ?_
        refine NX.seq ?_
        refine WC.ret' ?_
        obtain rfl := Option.some.inj hF
        exact NX.end (rs := [.tmp 2]) (vs := [.bool true]) rfl ⟨rfl, trivial⟩ ⟨_, rfl, rfl, he114⟩
theorem Z_LatchS {n : Nat} {a : List S_Latch} {left : Int} (hR : (fun xs => xs.length ≤ 9223372036854775807 ∧ ∀ x ∈ xs, R_Latch x) a) (h0 : 0 ≤ left) (h1 : left ≤ 1048576) (hn : 1048577 ≤ n) : ∃ r, F_laws_szLatchS n a left = some r ∧ r ≤ left ∧ (0 ≤ r → (fun xs => xs.length ≤ 1048576 ∧ ∀ x ∈ xs, SM_Latch x) a) := by
  have hl := hR.1
  rw [F_laws_szLatchS, wrap64 (by omega) (by omega)]
  by_cases h : left - (a.length : Int) < 0
  · rw [decide_eq_true h]; exact ⟨-1, rfl, by omega, fun h => by omega⟩
  · rw [decide_eq_false h]; exact ⟨_, rfl, by omega, fun _ => ⟨by omega, fun x _ => ⟨trivial, trivial⟩⟩⟩
theorem Z_LatchLinkS {n : Nat} {a : List S_LatchLink} {left : Int} (hR : (fun xs => xs.length ≤ 9223372036854775807 ∧ ∀ x ∈ xs, R_LatchLink x) a) (h0 : 0 ≤ left) (h1 : left ≤ 1048576) (hn : 1048577 ≤ n) : ∃ r, F_laws_szLatchLinkS n a left = some r ∧ r ≤ left ∧ (0 ≤ r → (fun xs => xs.length ≤ 1048576 ∧ ∀ x ∈ xs, SM_LatchLink x) a) := by
  have hl := hR.1
  rw [F_laws_szLatchLinkS, wrap64 (by omega) (by omega)]
  by_cases h : left - (a.length : Int) < 0
  · rw [decide_eq_true h]; exact ⟨-1, rfl, by omega, fun h => by omega⟩
  · rw [decide_eq_false h]; exact ⟨_, rfl, by omega, fun _ => ⟨by omega, fun x _ => ⟨trivial, trivial, trivial, trivial⟩⟩⟩
theorem Z_LatchSystem {n : Nat} {a : S_LatchSystem} {left : Int} (hR : R_LatchSystem a) (h0 : 0 ≤ left) (h1 : left ≤ 1048576) (hn : 1048577 ≤ n) : ∃ r, F_laws_szLatchSystem n a left = some r ∧ r ≤ left ∧ (0 ≤ r → SM_LatchSystem a) := by
  rw [F_laws_szLatchSystem]
  obtain ⟨r0, e0, l0, s0⟩ := Z_LatchS (n := n) hR.1 h0 h1 hn
  rw [e0, Option.bind_some]
  by_cases h_0 : r0 < 0
  · rw [decide_eq_true h_0]; exact ⟨-1, rfl, by omega, fun h => by omega⟩
  rw [decide_eq_false h_0, cond_false]
  obtain ⟨r1, e1, l1, s1⟩ := Z_LatchLinkS (n := n) hR.2 (show (0 : Int) ≤ r0 by omega) (by omega) hn
  rw [e1, Option.bind_some]
  by_cases h_1 : r1 < 0
  · rw [decide_eq_true h_1]; exact ⟨-1, rfl, by omega, fun h => by omega⟩
  rw [decide_eq_false h_1, cond_false]
  exact ⟨_, rfl, by omega, fun _ => ⟨s0 (by omega), s1 (by omega)⟩⟩
theorem T_Latch {n : Nat} {a : S_Latch} (h : SM_Latch a) (hn : 1048577 ≤ n) : F_laws_toLatch n a = some a := by
  rfl
theorem TL_LatchS {n : Nat} {a : List S_Latch} {k : Int → List S_Latch → Option (List S_Latch)} : ∀ (m : Nat) (i : Int) (l : List S_Latch), F_laws_toLatchS_L1 n a k m i l = cpL a (F_laws_toLatch n) k m i l
  | 0, _, _ => rfl
  | m + 1, i, l => by simp only [F_laws_toLatchS_L1_s, cpL_s, Option.bind_some, TL_LatchS (n := n) (a := a) (k := k) m]
theorem T_LatchS {n : Nat} {a : List S_Latch} (h : (fun xs => xs.length ≤ 1048576 ∧ ∀ x ∈ xs, SM_Latch x) a) (hn : 1048577 ≤ n) : F_laws_toLatchS n a = some a := by
  rw [F_laws_toLatchS, mkN_ok h.1 (by omega), Option.bind_some, TL_LatchS (n := n)]
  exact cpL_id (fun x hx => T_Latch (h.2 x hx) hn) h.1 hn
theorem T_LatchLink {n : Nat} {a : S_LatchLink} (h : SM_LatchLink a) (hn : 1048577 ≤ n) : F_laws_toLatchLink n a = some a := by
  rfl
theorem TL_LatchLinkS {n : Nat} {a : List S_LatchLink} {k : Int → List S_LatchLink → Option (List S_LatchLink)} : ∀ (m : Nat) (i : Int) (l : List S_LatchLink), F_laws_toLatchLinkS_L1 n a k m i l = cpL a (F_laws_toLatchLink n) k m i l
  | 0, _, _ => rfl
  | m + 1, i, l => by simp only [F_laws_toLatchLinkS_L1_s, cpL_s, Option.bind_some, TL_LatchLinkS (n := n) (a := a) (k := k) m]
theorem T_LatchLinkS {n : Nat} {a : List S_LatchLink} (h : (fun xs => xs.length ≤ 1048576 ∧ ∀ x ∈ xs, SM_LatchLink x) a) (hn : 1048577 ≤ n) : F_laws_toLatchLinkS n a = some a := by
  rw [F_laws_toLatchLinkS, mkN_ok h.1 (by omega), Option.bind_some, TL_LatchLinkS (n := n)]
  exact cpL_id (fun x hx => T_LatchLink (h.2 x hx) hn) h.1 hn
theorem T_LatchSystem {n : Nat} {a : S_LatchSystem} (h : SM_LatchSystem a) (hn : 1048577 ≤ n) : F_laws_toLatchSystem n a = some a := by
  rw [F_laws_toLatchSystem]; simp only [T_LatchS (h.1) hn, T_LatchLinkS (h.2) hn, Option.bind_some]
theorem E_Latch {n : Nat} {a : S_Latch} (h : SM_Latch a) (hn : 1048577 ≤ n) : F_laws_eqLatch n a a = some true := by
  simp [F_laws_eqLatch]
theorem EL_LatchS {n : Nat} {a b : List S_Latch} {k : Int → Option Bool} : ∀ (m : Nat) (i : Int), F_laws_eqLatchS_L1 n a b k m i = eqL a b (F_laws_eqLatch n) (some false) k m i
  | 0, _ => rfl
  | m + 1, i => by simp only [F_laws_eqLatchS_L1_s, eqL_s, Option.bind_some, bne, EL_LatchS (n := n) (a := a) (b := b) (k := k) m]
theorem E_LatchS {n : Nat} {a : List S_Latch} (h : (fun xs => xs.length ≤ 1048576 ∧ ∀ x ∈ xs, SM_Latch x) a) (hn : 1048577 ≤ n) : F_laws_eqLatchS n a a = some true := by
  rw [F_laws_eqLatchS, EL_LatchS (n := n)]
  have := eqL_same (f := F_laws_eqLatch n) (no := some false) (k := fun (i : Int) => some true) (fun x hx => E_Latch (h.2 x hx) hn) h.1 n 0 (by omega) (by omega)
  simpa using this
theorem E_LatchLink {n : Nat} {a : S_LatchLink} (h : SM_LatchLink a) (hn : 1048577 ≤ n) : F_laws_eqLatchLink n a a = some true := by
  simp [F_laws_eqLatchLink]
theorem EL_LatchLinkS {n : Nat} {a b : List S_LatchLink} {k : Int → Option Bool} : ∀ (m : Nat) (i : Int), F_laws_eqLatchLinkS_L1 n a b k m i = eqL a b (F_laws_eqLatchLink n) (some false) k m i
  | 0, _ => rfl
  | m + 1, i => by simp only [F_laws_eqLatchLinkS_L1_s, eqL_s, Option.bind_some, bne, EL_LatchLinkS (n := n) (a := a) (b := b) (k := k) m]
theorem E_LatchLinkS {n : Nat} {a : List S_LatchLink} (h : (fun xs => xs.length ≤ 1048576 ∧ ∀ x ∈ xs, SM_LatchLink x) a) (hn : 1048577 ≤ n) : F_laws_eqLatchLinkS n a a = some true := by
  rw [F_laws_eqLatchLinkS, EL_LatchLinkS (n := n)]
  have := eqL_same (f := F_laws_eqLatchLink n) (no := some false) (k := fun (i : Int) => some true) (fun x hx => E_LatchLink (h.2 x hx) hn) h.1 n 0 (by omega) (by omega)
  simpa using this
theorem E_LatchSystem {n : Nat} {a : S_LatchSystem} (h : SM_LatchSystem a) (hn : 1048577 ≤ n) : F_laws_eqLatchSystem n a a = some true := by
  simp [F_laws_eqLatchSystem, E_LatchS (h.1) hn, E_LatchLinkS (h.2) hn]
theorem Rd_2 : Rd Try.prog 2 (cInt .i64) (inK .i64) := Rd.int Try.underlying2
theorem Rd_109 : Rd Try.prog 109 C_Latch R_Latch := Rd.map (Rd.struct (fs := [_, _]) Try.underlying109 (by kernel_rfl) (RdF.cons Rd_2 rfl (by kernel_rfl) (RdF.one Rd_2 rfl (by kernel_rfl)))) (fun (x : S_Latch) => (x.Open, x.Close)) (fun p => (⟨p.1, p.2⟩ : S_Latch)) (fun _ => rfl)
theorem Rd_29 : Rd Try.prog 29 (cSl C_Latch) (fun xs => xs.length ≤ 9223372036854775807 ∧ ∀ x ∈ xs, R_Latch x) := Rd.slice Try.underlying29 (by kernel_rfl) rfl Rd_109
theorem Rd_111 : Rd Try.prog 111 C_LatchLink R_LatchLink := Rd.map (Rd.struct (fs := [_, _, _, _]) Try.underlying111 (by kernel_rfl) (RdF.cons Rd_2 rfl (by kernel_rfl) (RdF.cons Rd_2 rfl (by kernel_rfl) (RdF.cons Rd_2 rfl (by kernel_rfl) (RdF.one Rd_2 rfl (by kernel_rfl)))))) (fun (x : S_LatchLink) => (x.From, x.To, x.Delay, x.Shift)) (fun p => (⟨p.1, p.2.1, p.2.2.1, p.2.2.2⟩ : S_LatchLink)) (fun _ => rfl)
theorem Rd_30 : Rd Try.prog 30 (cSl C_LatchLink) (fun xs => xs.length ≤ 9223372036854775807 ∧ ∀ x ∈ xs, R_LatchLink x) := Rd.slice Try.underlying30 (by kernel_rfl) rfl Rd_111
theorem Rd_32 : Rd Try.prog 32 C_LatchSystem R_LatchSystem := Rd.map (Rd.struct (fs := [_, _]) Try.underlying32 (by kernel_rfl) (RdF.cons Rd_29 rfl (by kernel_rfl) (RdF.one Rd_30 rfl (by kernel_rfl)))) (fun (x : S_LatchSystem) => (x.Latches, x.Links)) (fun p => (⟨p.1, p.2⟩ : S_LatchSystem)) (fun _ => rfl)
end Go.Proofs.Ytmhmpfckdhiijaa
