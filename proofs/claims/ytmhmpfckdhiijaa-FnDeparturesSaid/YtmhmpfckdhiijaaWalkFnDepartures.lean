/- The walks: every function that FnDepartures reaches computes the plain function that is typed beside it; no condition. -/
import Derived.Test.YtmhmpfckdhiijaaWalkFnDeparturesP0
import Derived.Test.YtmhmpfckdhiijaaDat
set_option linter.all false
set_option maxRecDepth 20000
namespace Go.Proofs.Ytmhmpfckdhiijaa
open Go Go.RowKit Go.Eng
-- loop.example/g00861/spec.IsLatchSystem
def F_spec_IsLatchSystem_L2 (n : Nat) (a0_s : S_LatchSystem) (k2 : Int → Option Bool) : Nat → Int → Option Bool
  | 0 => fun _ => none
  | m + 1 => fun i18 => (bif decide (i18 < (a0_s.Links.length : Int)) then (Option.bind (getI a0_s.Links i18) fun x21 => (Option.bind (F_spec_l01In n x21.From 0 (IntKind.wrap IntKind.i64 (((a0_s.Latches.length : Int)) - 1))) fun r41 => (Option.bind (bif (!r41) then (some true) else (Option.bind (F_spec_l01In n x21.To 0 (IntKind.wrap IntKind.i64 (((a0_s.Latches.length : Int)) - 1))) fun r47 => (some (!r47)))) fun c47 => (Option.bind (bif c47 then (some true) else (Option.bind (F_spec_l01In n x21.Delay 0 100000) fun r60 => (some (!r60)))) fun c60 => (Option.bind (bif c60 then (some true) else (Option.bind (F_spec_l01In n x21.Shift 0 100000) fun r73 => (some (!r73)))) fun c73 => (bif c73 then (some false) else (F_spec_IsLatchSystem_L2 n a0_s k2 m (IntKind.wrap IntKind.i64 (i18 + 1))))))))) else (k2 i18))
theorem F_spec_IsLatchSystem_L2_z (n : Nat) (a0_s : S_LatchSystem) (k2 : Int → Option Bool) (i18 : Int) : F_spec_IsLatchSystem_L2 n a0_s k2 0 i18 = none := rfl
theorem F_spec_IsLatchSystem_L2_s (m : Nat) (n : Nat) (a0_s : S_LatchSystem) (k2 : Int → Option Bool) (i18 : Int) : F_spec_IsLatchSystem_L2 n a0_s k2 (m + 1) i18 = (bif decide (i18 < (a0_s.Links.length : Int)) then (Option.bind (getI a0_s.Links i18) fun x21 => (Option.bind (F_spec_l01In n x21.From 0 (IntKind.wrap IntKind.i64 (((a0_s.Latches.length : Int)) - 1))) fun r41 => (Option.bind (bif (!r41) then (some true) else (Option.bind (F_spec_l01In n x21.To 0 (IntKind.wrap IntKind.i64 (((a0_s.Latches.length : Int)) - 1))) fun r47 => (some (!r47)))) fun c47 => (Option.bind (bif c47 then (some true) else (Option.bind (F_spec_l01In n x21.Delay 0 100000) fun r60 => (some (!r60)))) fun c60 => (Option.bind (bif c60 then (some true) else (Option.bind (F_spec_l01In n x21.Shift 0 100000) fun r73 => (some (!r73)))) fun c73 => (bif c73 then (some false) else (F_spec_IsLatchSystem_L2 n a0_s k2 m (IntKind.wrap IntKind.i64 (i18 + 1))))))))) else (k2 i18)) := rfl

def F_spec_IsLatchSystem_L1 (n : Nat) (a0_s : S_LatchSystem) (k0 : Int → Option Bool) : Nat → Int → Option Bool
  | 0 => fun _ => none
  | m + 1 => fun i14 => (bif decide (i14 < (a0_s.Latches.length : Int)) then (Option.bind (getI a0_s.Latches i14) fun x17 => (Option.bind (F_spec_l01In n x17.Open 0 100000) fun r37 => (Option.bind (bif (!r37) then (some true) else (Option.bind (F_spec_l01In n x17.Close x17.Open 100000) fun r43 => (some (!r43)))) fun c43 => (bif c43 then (some false) else (F_spec_IsLatchSystem_L1 n a0_s k0 m (IntKind.wrap IntKind.i64 (i14 + 1))))))) else (k0 i14))
theorem F_spec_IsLatchSystem_L1_z (n : Nat) (a0_s : S_LatchSystem) (k0 : Int → Option Bool) (i14 : Int) : F_spec_IsLatchSystem_L1 n a0_s k0 0 i14 = none := rfl
theorem F_spec_IsLatchSystem_L1_s (m : Nat) (n : Nat) (a0_s : S_LatchSystem) (k0 : Int → Option Bool) (i14 : Int) : F_spec_IsLatchSystem_L1 n a0_s k0 (m + 1) i14 = (bif decide (i14 < (a0_s.Latches.length : Int)) then (Option.bind (getI a0_s.Latches i14) fun x17 => (Option.bind (F_spec_l01In n x17.Open 0 100000) fun r37 => (Option.bind (bif (!r37) then (some true) else (Option.bind (F_spec_l01In n x17.Close x17.Open 100000) fun r43 => (some (!r43)))) fun c43 => (bif c43 then (some false) else (F_spec_IsLatchSystem_L1 n a0_s k0 m (IntKind.wrap IntKind.i64 (i14 + 1))))))) else (k0 i14)) := rfl

def F_spec_IsLatchSystem (n : Nat) (a0_s : S_LatchSystem) : Option Bool := (F_spec_IsLatchSystem_L1 n a0_s (fun i14 => (F_spec_IsLatchSystem_L2 n a0_s (fun i18 => (some (((decide ((a0_s.Latches.length : Int) ≤ 12)) && (decide ((a0_s.Links.length : Int) ≤ 60)))))) n 0)) n 0)
set_option maxHeartbeats 40000000 in
theorem W_spec_IsLatchSystem {n : Nat} {a0_s : S_LatchSystem} {r : Bool} {w : World} {v1 : Value} {v3 : Value} (hF : F_spec_IsLatchSystem n a0_s = some r) (ha2 : slRep C_Latch w (Iv 0 w.heap.size) a0_s.Latches v1) (ha4 : slRep C_LatchLink w (Iv 0 w.heap.size) a0_s.Links v3) :
    Calls Try.prog 19 [.agg #[v1, v3]].toArray w (Ret fun u w2 => u = .bool r ∧ Ext w w2) := by
  refine calls_of Try.func19 rfl Try.ntmps19 ?_
  have he0 : Ext w w := Ext.refl w
  unfold F_spec_IsLatchSystem at hF
  refine WC.seq ?_
  refine WC.region ?_
  refine TL.eff rfl rfl (eff_box rfl rfl) ?_
  rintro _ w6 ⟨b5, rfl, hn7⟩
  obtain ⟨hn7e, hn7s, hn7x, hb8⟩ := hn7
  have hb8 : Box w6 b5 [v1, v3] 38 := hb8
  have he10 : Ext w w6 := Ext.trans he0 hn7x
  have hz11 := (hn7x).size
  have hlo9 : w.heap.size ≤ b5 := by rw [hn7e]; exact (he0).size
  refine TL.yld rfl rfl (yld_assign rfl rfl) ?_
  refine TL.done ?_
  refine NX.seq ?_
  refine WC.seq ?_
  refine WC.region ?_
  refine TL.yld rfl rfl (yld_fieldAddr rfl fo_38_0 rfl) ?_
  refine TL.yld rfl rfl (yld_load1 0 rfl ag_35 rfl (Box.cells hb8) rfl rfl) ?_
  refine TL.yld rfl rfl (ye_len (c := C_Latch) rfl Try.underlying35 rfl (slRep.old ha2 he10 (Nat.le_refl _))) ?_
  refine TL.yld rfl rfl (yld_assign rfl rfl) ?_
  refine TL.done ?_
  refine NX.seq ?_
  refine WC.seq ?_
  refine WC.seq ?_
  refine WC.region ?_
  refine TL.yld rfl rfl (yld_assign rfl rfl) ?_
  refine TL.done ?_
  refine NX.seq ?_
  refine WC.block ?_
  refine WC.loop (fun m16 a wl => ∃ (i14 : Int), Kn 83 [(1, .pointer (some ⟨b5, 0, none⟩)), (3, .int .i64 ((a0_s.Latches.length : Int))), (4, .int .i64 i14)] a ∧ Ext w wl ∧ w6.heap.size ≤ wl.heap.size ∧ Box wl b5 [v1, v3] 38 ∧ F_spec_IsLatchSystem_L1 n a0_s (fun i14 => (F_spec_IsLatchSystem_L2 n a0_s (fun i18 => (some (((decide ((a0_s.Latches.length : Int) ≤ 12)) && (decide ((a0_s.Links.length : Int) ≤ 60)))))) n 0)) m16 i14 = some r) n ?_ ?_
  · intro a hK; exact ⟨0, hK.weaken ⟨rfl, rfl, rfl, trivial⟩, he10, Nat.le_refl _, hb8, hF⟩
  · rintro m16 a w12 ⟨i14, hK, he13, hz17, hb15, hF⟩
    revert hK; revert a; refine (?_ : WC _ _ _ _ _ _)
    cases m16 with
    | zero => rw [F_spec_IsLatchSystem_L1_z] at hF; cases hF
    | succ m16 =>
      rw [F_spec_IsLatchSystem_L1_s] at hF
      refine WC.seq ?_
      refine WC.seq ?_
      refine WC.region ?_
      refine TL.yld rfl rfl (yld_move rfl rfl) ?_
      refine TL.yld rfl rfl (yld_fieldAddr rfl fo_38_0 rfl) ?_
      refine TL.yld rfl rfl (yld_load1 0 rfl ag_35 rfl (Box.cells hb15) rfl rfl) ?_
      refine TL.yld rfl rfl (ye_len (c := C_Latch) rfl Try.underlying35 rfl (slRep.old ha2 he13 (Nat.le_refl _))) ?_
      refine TL.yld rfl rfl (yld_lss rfl rfl rfl) ?_
      refine TL.done ?_
      refine NX.seq ?_
      refine WC.cond rfl ?_ ?_
      · intro hc18
        replace hF := bif_t hc18 hF
        refine WC.skip' ?_
        refine NX.seq ?_
        refine WC.seq ?_
        refine WC.block ?_
        refine WC.seq ?_
        refine WC.region ?_
        refine TL.yld rfl rfl (yld_fieldAddr rfl fo_38_0 rfl) ?_
        refine TL.yld rfl rfl (yld_load1 0 rfl ag_35 rfl (Box.cells hb15) rfl rfl) ?_
        refine TL.yld rfl rfl (yld_move rfl rfl) ?_
        obtain ⟨x19, hy20, hF⟩ := bsome hF
        refine TL.ye rfl rfl (ye_index (c := C_Latch) rfl Try.underlying35 cn_50 rfl rfl (slRep.old ha2 he13 (Nat.le_refl _)) hy20) ?_
        rintro _ ⟨b21, o22, us23, rfl, hib26, hr24, hcl25⟩
        have hib26 : 0 ≤ b21 ∧ b21 < w.heap.size := ⟨hib26.1, by have := hib26.2; omega⟩
        obtain rfl := C_Latch_open hr24
        refine TL.yld rfl rfl (yld_loadN (us := [.int .i64 x19.Open, .int .i64 x19.Close]) rfl ag_50 rfl hcl25 cn_50) ?_
        refine TL.eff rfl rfl (eff_alloc rfl zn_50) ?_
        rintro _ w28 ⟨b27, rfl, hn29⟩
        obtain ⟨hn29e, hn29s, hn29x, hb30⟩ := hn29
        have hb30 : Box w28 b27 [.int .i64 0, .int .i64 0] 50 := hb30
        have he32 : Ext w w28 := Ext.trans he13 hn29x
        have hb15 := Box.ext hb15 hn29x
        have hz33 := (hn29x).size
        have hlo31 : w.heap.size ≤ b27 := by rw [hn29e]; exact (he13).size
        refine TL.eff rfl rfl (eff_store rfl rfl rfl hb30 cn_50 rfl rfl) ?_
        rintro _ w34 ⟨hu35, hb36⟩
        have he37 : Ext w w34 := Below.trans he32 (Upd.below hu35 (by omega))
        have hb15 := Box.upd hb15 hu35 (by omega)
        have hz38 := (hu35).size
        have hb30 : Box w34 b27 [.int .i64 x19.Open, .int .i64 x19.Close] 50 := hb36
        refine TL.done ?_
        refine NX.seq ?_
        refine WC.seq ?_
        refine WC.region ?_
        refine TL.yld rfl rfl (yld_fieldAddr rfl fo_50_0 rfl) ?_
        refine TL.yld rfl rfl (yld_load1 0 rfl ag_2 rfl (Box.cells hb30) rfl rfl) ?_
        obtain ⟨r39, hr40, hF⟩ := bsome hF
        refine TL.eff rfl rfl (eff_call rfl gf_57 rfl (W_spec_l01In hr40)) ?_
        rintro _ w41 ⟨rfl, hx42⟩
        have he43 : Ext w w41 := Ext.trans he37 hx42
        have hb15 := Box.ext hb15 hx42
        have hb30 := Box.ext hb30 hx42
        have hz44 := (hx42).size
        refine TL.yld rfl rfl (yld_not rfl rfl) ?_
        refine TL.yld rfl rfl (yld_move rfl rfl) ?_
        obtain ⟨c45, hb46, hF⟩ := bsome hF
        refine TL.cut 7 [(1, .pointer (some ⟨b5, 0, none⟩)), (3, .int .i64 ((a0_s.Latches.length : Int))), (4, .int .i64 i14), (34, .bool c45)] (fun w' => Ext w41 w') ?_ ?_
        · rcases Bool.eq_false_or_eq_true (!r39) with hg47 | hg47
          ·
            rw [hg47] at hb46; simp only [cond_true, cond_false] at hb46
            refine TL.gnu (j := 4) (t := 27) rfl rfl rfl hg47 rfl ?_
            refine TL.gnu (j := 4) (t := 27) rfl rfl rfl hg47 rfl ?_
            refine TL.gnu (j := 4) (t := 27) rfl rfl rfl hg47 rfl ?_
            refine TL.gnu (j := 4) (t := 27) rfl rfl rfl hg47 rfl ?_
            refine TL.gnu (j := 4) (t := 27) rfl rfl rfl hg47 rfl ?_
            refine TL.gnu (j := 4) (t := 27) rfl rfl rfl hg47 rfl ?_
            obtain rfl := Option.some.inj hb46
            refine TL.yld rfl rfl (yld_pick_t rfl rfl hg47 rfl) ?_
            exact TL.nil fun a h => ⟨h.weaken ⟨rfl, rfl, rfl, rfl, trivial⟩, Ext.refl _⟩
          ·
            rw [hg47] at hb46; simp only [cond_true, cond_false] at hb46
            replace hF := hb46
            refine TL.gy (j := 4) (t := 27) rfl rfl rfl hg47 rfl (yld_fieldAddr rfl fo_50_1 rfl) ?_
            refine TL.gy (j := 4) (t := 27) rfl rfl rfl hg47 rfl (yld_load1 1 rfl ag_2 rfl (Box.cells hb30) rfl rfl) ?_
            refine TL.gy (j := 4) (t := 27) rfl rfl rfl hg47 rfl (yld_fieldAddr rfl fo_50_0 rfl) ?_
            refine TL.gy (j := 4) (t := 27) rfl rfl rfl hg47 rfl (yld_load1 0 rfl ag_2 rfl (Box.cells hb30) rfl rfl) ?_
            obtain ⟨r48, hr49, hF⟩ := bsome hF
            refine TL.ge (j := 4) (t := 27) rfl rfl rfl hg47 rfl (eff_call rfl gf_57 rfl (W_spec_l01In hr49)) ?_
            rintro _ w50 ⟨rfl, hx51⟩
            have he52 : Ext w w50 := Ext.trans he43 hx51
            have hb15 := Box.ext hb15 hx51
            have hb30 := Box.ext hb30 hx51
            have hz53 := (hx51).size
            refine TL.gy (j := 4) (t := 27) rfl rfl rfl hg47 rfl (yld_not rfl rfl) ?_
            obtain rfl := Option.some.inj hF
            refine TL.yld rfl rfl (yld_pick_f rfl rfl hg47 rfl) ?_
            exact TL.nil fun a h => ⟨h.weaken ⟨rfl, rfl, rfl, rfl, trivial⟩, hx51⟩
        intro w54 hx55
        have he56 : Ext w w54 := Ext.trans he43 hx55
        have hb15 := Box.ext hb15 hx55
        have hb30 := Box.ext hb30 hx55
        have hz57 := (hx55).size
        refine TL.done ?_
        refine NX.seq ?_
        refine WC.cond rfl ?_ ?_
        · intro hc58
          replace hF := bif_t hc58 hF
          refine WC.seq ?_
          refine WC.region ?_
          refine TL.yld rfl rfl (yld_assign rfl rfl) ?_
          refine TL.done ?_
          refine NX.seq ?_
          refine WC.ret' ?_
          refine NX.blk_r ?_
          refine NX.then_r ?_
          refine NX.then_r ?_
          refine NX.blk_r ?_
          refine NX.then_r ?_
          obtain rfl := Option.some.inj hF
          exact NX.end (rs := [.tmp 2]) (vs := [.bool false]) rfl ⟨rfl, trivial⟩ ⟨_, rfl, rfl, he56⟩
        · intro hc59
          replace hF := bif_f hc59 hF
          refine WC.skip' ?_
          refine NX.blk_n ?_
          refine NX.seq ?_
          refine WC.region ?_
          refine TL.yld rfl rfl (yld_move rfl rfl) ?_
          refine TL.yld rfl rfl (yld_add rfl rfl rfl) ?_
          refine TL.yld rfl rfl (yld_assign rfl rfl) ?_
          refine TL.done ?_
          refine NX.then_n ?_
          intro a hK; exact ⟨m16, Nat.lt_succ_self m16, (IntKind.wrap IntKind.i64 (i14 + 1)), hK.weaken ⟨rfl, rfl, rfl, trivial⟩, he56, (by omega), hb15, hF⟩
      · intro hc60
        replace hF := bif_f hc60 hF
        refine WC.exit' ?_
        refine NX.then_e ?_
        refine NX.then_e ?_
        refine NX.blk_hit ?_
        refine NX.seq ?_
        refine WC.seq ?_
        refine WC.seq ?_
        refine WC.region ?_
        refine TL.yld rfl rfl (yld_assign rfl rfl) ?_
        refine TL.done ?_
        refine NX.seq ?_
        refine WC.block ?_
        refine WC.loop (fun m65 a wl => ∃ (i63 : Int), Kn 83 [(1, .pointer (some ⟨b5, 0, none⟩)), (3, .int .i64 ((a0_s.Latches.length : Int))), (6, .int .i64 i63)] a ∧ Ext w wl ∧ w12.heap.size ≤ wl.heap.size ∧ Box wl b5 [v1, v3] 38 ∧ F_spec_IsLatchSystem_L2 n a0_s (fun i63 => (some (((decide ((a0_s.Latches.length : Int) ≤ 12)) && (decide ((a0_s.Links.length : Int) ≤ 60)))))) m65 i63 = some r) n ?_ ?_
        · intro a hK; exact ⟨0, hK.weaken ⟨rfl, rfl, rfl, trivial⟩, he13, Nat.le_refl _, hb15, hF⟩
        · rintro m65 a w61 ⟨i63, hK, he62, hz66, hb64, hF⟩
          revert hK; revert a; refine (?_ : WC _ _ _ _ _ _)
          cases m65 with
          | zero => rw [F_spec_IsLatchSystem_L2_z] at hF; cases hF
          | succ m65 =>
            rw [F_spec_IsLatchSystem_L2_s] at hF
            refine WC.seq ?_
            refine WC.seq ?_
            refine WC.region ?_
            refine TL.yld rfl rfl (yld_move rfl rfl) ?_
            refine TL.yld rfl rfl (yld_fieldAddr rfl fo_38_1 rfl) ?_
            refine TL.yld rfl rfl (yld_load1 1 rfl ag_36 rfl (Box.cells hb64) rfl rfl) ?_
            refine TL.yld rfl rfl (ye_len (c := C_LatchLink) rfl Try.underlying36 rfl (slRep.old ha4 he62 (Nat.le_refl _))) ?_
            refine TL.yld rfl rfl (yld_lss rfl rfl rfl) ?_
            refine TL.done ?_
            refine NX.seq ?_
            refine WC.cond rfl ?_ ?_
            · intro hc67
              replace hF := bif_t hc67 hF
              refine WC.skip' ?_
              refine NX.seq ?_
              refine WC.seq ?_
              refine WC.block ?_
              refine WC.seq ?_
              refine WC.region ?_
              refine TL.yld rfl rfl (yld_fieldAddr rfl fo_38_1 rfl) ?_
              refine TL.yld rfl rfl (yld_load1 1 rfl ag_36 rfl (Box.cells hb64) rfl rfl) ?_
              refine TL.yld rfl rfl (yld_move rfl rfl) ?_
              obtain ⟨x68, hy69, hF⟩ := bsome hF
              refine TL.ye rfl rfl (ye_index (c := C_LatchLink) rfl Try.underlying36 cn_77 rfl rfl (slRep.old ha4 he62 (Nat.le_refl _)) hy69) ?_
              rintro _ ⟨b70, o71, us72, rfl, hib75, hr73, hcl74⟩
              have hib75 : 0 ≤ b70 ∧ b70 < w.heap.size := ⟨hib75.1, by have := hib75.2; omega⟩
              obtain rfl := C_LatchLink_open hr73
              refine TL.yld rfl rfl (yld_loadN (us := [.int .i64 x68.From, .int .i64 x68.To, .int .i64 x68.Delay, .int .i64 x68.Shift]) rfl ag_77 rfl hcl74 cn_77) ?_
              refine TL.eff rfl rfl (eff_alloc rfl zn_77) ?_
              rintro _ w77 ⟨b76, rfl, hn78⟩
              obtain ⟨hn78e, hn78s, hn78x, hb79⟩ := hn78
              have hb79 : Box w77 b76 [.int .i64 0, .int .i64 0, .int .i64 0, .int .i64 0] 77 := hb79
              have he81 : Ext w w77 := Ext.trans he62 hn78x
              have hb64 := Box.ext hb64 hn78x
              have hz82 := (hn78x).size
              have hlo80 : w.heap.size ≤ b76 := by rw [hn78e]; exact (he62).size
              refine TL.eff rfl rfl (eff_store rfl rfl rfl hb79 cn_77 rfl rfl) ?_
              rintro _ w83 ⟨hu84, hb85⟩
              have he86 : Ext w w83 := Below.trans he81 (Upd.below hu84 (by omega))
              have hb64 := Box.upd hb64 hu84 (by omega)
              have hz87 := (hu84).size
              have hb79 : Box w83 b76 [.int .i64 x68.From, .int .i64 x68.To, .int .i64 x68.Delay, .int .i64 x68.Shift] 77 := hb85
              refine TL.done ?_
              refine NX.seq ?_
              refine WC.seq ?_
              refine WC.region ?_
              refine TL.yld rfl rfl (yld_fieldAddr rfl fo_77_0 rfl) ?_
              refine TL.yld rfl rfl (yld_load1 0 rfl ag_2 rfl (Box.cells hb79) rfl rfl) ?_
              refine TL.yld rfl rfl (yld_move rfl rfl) ?_
              refine TL.yld rfl rfl (yld_sub rfl rfl rfl) ?_
              obtain ⟨r88, hr89, hF⟩ := bsome hF
              refine TL.eff rfl rfl (eff_call rfl gf_57 rfl (W_spec_l01In hr89)) ?_
              rintro _ w90 ⟨rfl, hx91⟩
              have he92 : Ext w w90 := Ext.trans he86 hx91
              have hb64 := Box.ext hb64 hx91
              have hb79 := Box.ext hb79 hx91
              have hz93 := (hx91).size
              refine TL.yld rfl rfl (yld_not rfl rfl) ?_
              refine TL.yld rfl rfl (yld_move rfl rfl) ?_
              obtain ⟨c94, hb95, hF⟩ := bsome hF
              refine TL.cut 7 [(1, .pointer (some ⟨b5, 0, none⟩)), (3, .int .i64 ((a0_s.Latches.length : Int))), (6, .int .i64 i63), (7, .pointer (some ⟨b76, 0, none⟩)), (60, .bool c94)] (fun w' => Ext w90 w') ?_ ?_
              · rcases Bool.eq_false_or_eq_true (!r88) with hg96 | hg96
                ·
                  rw [hg96] at hb95; simp only [cond_true, cond_false] at hb95
                  refine TL.gnu (j := 6) (t := 53) rfl rfl rfl hg96 rfl ?_
                  refine TL.gnu (j := 6) (t := 53) rfl rfl rfl hg96 rfl ?_
                  refine TL.gnu (j := 6) (t := 53) rfl rfl rfl hg96 rfl ?_
                  refine TL.gnu (j := 6) (t := 53) rfl rfl rfl hg96 rfl ?_
                  refine TL.gnu (j := 6) (t := 53) rfl rfl rfl hg96 rfl ?_
                  refine TL.gnu (j := 6) (t := 53) rfl rfl rfl hg96 rfl ?_
                  obtain rfl := Option.some.inj hb95
                  refine TL.yld rfl rfl (yld_pick_t rfl rfl hg96 rfl) ?_
                  exact TL.nil fun a h => ⟨h.weaken ⟨rfl, rfl, rfl, rfl, rfl, trivial⟩, Ext.refl _⟩
                ·
                  rw [hg96] at hb95; simp only [cond_true, cond_false] at hb95
                  replace hF := hb95
                  refine TL.gy (j := 6) (t := 53) rfl rfl rfl hg96 rfl (yld_fieldAddr rfl fo_77_1 rfl) ?_
                  refine TL.gy (j := 6) (t := 53) rfl rfl rfl hg96 rfl (yld_load1 1 rfl ag_2 rfl (Box.cells hb79) rfl rfl) ?_
                  refine TL.gy (j := 6) (t := 53) rfl rfl rfl hg96 rfl (yld_move rfl rfl) ?_
                  refine TL.gy (j := 6) (t := 53) rfl rfl rfl hg96 rfl (yld_sub rfl rfl rfl) ?_
                  obtain ⟨r97, hr98, hF⟩ := bsome hF
                  refine TL.ge (j := 6) (t := 53) rfl rfl rfl hg96 rfl (eff_call rfl gf_57 rfl (W_spec_l01In hr98)) ?_
                  rintro _ w99 ⟨rfl, hx100⟩
                  have he101 : Ext w w99 := Ext.trans he92 hx100
                  have hb64 := Box.ext hb64 hx100
                  have hb79 := Box.ext hb79 hx100
                  have hz102 := (hx100).size
                  refine TL.gy (j := 6) (t := 53) rfl rfl rfl hg96 rfl (yld_not rfl rfl) ?_
                  obtain rfl := Option.some.inj hF
                  refine TL.yld rfl rfl (yld_pick_f rfl rfl hg96 rfl) ?_
                  exact TL.nil fun a h => ⟨h.weaken ⟨rfl, rfl, rfl, rfl, rfl, trivial⟩, hx100⟩
              intro w103 hx104
              have he105 : Ext w w103 := Ext.trans he92 hx104
              have hb64 := Box.ext hb64 hx104
              have hb79 := Box.ext hb79 hx104
              have hz106 := (hx104).size
              refine TL.yld rfl rfl (yld_move rfl rfl) ?_
              obtain ⟨c107, hb108, hF⟩ := bsome hF
              refine TL.cut 5 [(1, .pointer (some ⟨b5, 0, none⟩)), (3, .int .i64 ((a0_s.Latches.length : Int))), (6, .int .i64 i63), (7, .pointer (some ⟨b76, 0, none⟩)), (66, .bool c107)] (fun w' => Ext w103 w') ?_ ?_
              · rcases Bool.eq_false_or_eq_true c94 with hg109 | hg109
                ·
                  rw [hg109] at hb108; simp only [cond_true, cond_false] at hb108
                  refine TL.gnu (j := 14) (t := 61) rfl rfl rfl hg109 rfl ?_
                  refine TL.gnu (j := 14) (t := 61) rfl rfl rfl hg109 rfl ?_
                  refine TL.gnu (j := 14) (t := 61) rfl rfl rfl hg109 rfl ?_
                  refine TL.gnu (j := 14) (t := 61) rfl rfl rfl hg109 rfl ?_
                  obtain rfl := Option.some.inj hb108
                  refine TL.yld rfl rfl (yld_pick_t rfl rfl hg109 rfl) ?_
                  exact TL.nil fun a h => ⟨h.weaken ⟨rfl, rfl, rfl, rfl, rfl, trivial⟩, Ext.refl _⟩
                ·
                  rw [hg109] at hb108; simp only [cond_true, cond_false] at hb108
                  replace hF := hb108
                  refine TL.gy (j := 14) (t := 61) rfl rfl rfl hg109 rfl (yld_fieldAddr rfl fo_77_2 rfl) ?_
                  refine TL.gy (j := 14) (t := 61) rfl rfl rfl hg109 rfl (yld_load1 2 rfl ag_2 rfl (Box.cells hb79) rfl rfl) ?_
                  obtain ⟨r110, hr111, hF⟩ := bsome hF
                  refine TL.ge (j := 14) (t := 61) rfl rfl rfl hg109 rfl (eff_call rfl gf_57 rfl (W_spec_l01In hr111)) ?_
                  rintro _ w112 ⟨rfl, hx113⟩
                  have he114 : Ext w w112 := Ext.trans he105 hx113
                  have hb64 := Box.ext hb64 hx113
                  have hb79 := Box.ext hb79 hx113
                  have hz115 := (hx113).size
                  refine TL.gy (j := 14) (t := 61) rfl rfl rfl hg109 rfl (yld_not rfl rfl) ?_
                  obtain rfl := Option.some.inj hF
                  refine TL.yld rfl rfl (yld_pick_f rfl rfl hg109 rfl) ?_
                  exact TL.nil fun a h => ⟨h.weaken ⟨rfl, rfl, rfl, rfl, rfl, trivial⟩, hx113⟩
              intro w116 hx117
              have he118 : Ext w w116 := Ext.trans he105 hx117
              have hb64 := Box.ext hb64 hx117
              have hb79 := Box.ext hb79 hx117
              have hz119 := (hx117).size
              refine TL.yld rfl rfl (yld_move rfl rfl) ?_
              obtain ⟨c120, hb121, hF⟩ := bsome hF
              refine TL.cut 5 [(1, .pointer (some ⟨b5, 0, none⟩)), (3, .int .i64 ((a0_s.Latches.length : Int))), (6, .int .i64 i63), (72, .bool c120)] (fun w' => Ext w116 w') ?_ ?_
              · rcases Bool.eq_false_or_eq_true c107 with hg122 | hg122
                ·
                  rw [hg122] at hb121; simp only [cond_true, cond_false] at hb121
                  refine TL.gnu (j := 20) (t := 67) rfl rfl rfl hg122 rfl ?_
                  refine TL.gnu (j := 20) (t := 67) rfl rfl rfl hg122 rfl ?_
                  refine TL.gnu (j := 20) (t := 67) rfl rfl rfl hg122 rfl ?_
                  refine TL.gnu (j := 20) (t := 67) rfl rfl rfl hg122 rfl ?_
                  obtain rfl := Option.some.inj hb121
                  refine TL.yld rfl rfl (yld_pick_t rfl rfl hg122 rfl) ?_
                  exact TL.nil fun a h => ⟨h.weaken ⟨rfl, rfl, rfl, rfl, trivial⟩, Ext.refl _⟩
                ·
                  rw [hg122] at hb121; simp only [cond_true, cond_false] at hb121
                  replace hF := hb121
                  refine TL.gy (j := 20) (t := 67) rfl rfl rfl hg122 rfl (yld_fieldAddr rfl fo_77_3 rfl) ?_
                  refine TL.gy (j := 20) (t := 67) rfl rfl rfl hg122 rfl (yld_load1 3 rfl ag_2 rfl (Box.cells hb79) rfl rfl) ?_
                  obtain ⟨r123, hr124, hF⟩ := bsome hF
                  refine TL.ge (j := 20) (t := 67) rfl rfl rfl hg122 rfl (eff_call rfl gf_57 rfl (W_spec_l01In hr124)) ?_
                  rintro _ w125 ⟨rfl, hx126⟩
                  have he127 : Ext w w125 := Ext.trans he118 hx126
                  have hb64 := Box.ext hb64 hx126
                  have hb79 := Box.ext hb79 hx126
                  have hz128 := (hx126).size
                  refine TL.gy (j := 20) (t := 67) rfl rfl rfl hg122 rfl (yld_not rfl rfl) ?_
                  obtain rfl := Option.some.inj hF
                  refine TL.yld rfl rfl (yld_pick_f rfl rfl hg122 rfl) ?_
                  exact TL.nil fun a h => ⟨h.weaken ⟨rfl, rfl, rfl, rfl, trivial⟩, hx126⟩
              intro w129 hx130
              have he131 : Ext w w129 := Ext.trans he118 hx130
              have hb64 := Box.ext hb64 hx130
              have hb79 := Box.ext hb79 hx130
              have hz132 := (hx130).size
              refine TL.done ?_
              refine NX.seq ?_
              refine WC.cond rfl ?_ ?_
              · intro hc133
                replace hF := bif_t hc133 hF
                refine WC.seq ?_
                refine WC.region ?_
                refine TL.yld rfl rfl (yld_assign rfl rfl) ?_
                refine TL.done ?_
                refine NX.seq ?_
                refine WC.ret' ?_
                refine NX.blk_r ?_
                refine NX.then_r ?_
                refine NX.then_r ?_
                refine NX.blk_r ?_
                refine NX.then_r ?_
                obtain rfl := Option.some.inj hF
                exact NX.end (rs := [.tmp 2]) (vs := [.bool false]) rfl ⟨rfl, trivial⟩ ⟨_, rfl, rfl, he131⟩
              · intro hc134
                replace hF := bif_f hc134 hF
                refine WC.skip' ?_
                refine NX.blk_n ?_
                refine NX.seq ?_
                refine WC.region ?_
                refine TL.yld rfl rfl (yld_move rfl rfl) ?_
                refine TL.yld rfl rfl (yld_add rfl rfl rfl) ?_
                refine TL.yld rfl rfl (yld_assign rfl rfl) ?_
                refine TL.done ?_
                refine NX.then_n ?_
                intro a hK; exact ⟨m65, Nat.lt_succ_self m65, (IntKind.wrap IntKind.i64 (i63 + 1)), hK.weaken ⟨rfl, rfl, rfl, trivial⟩, he131, (by omega), hb64, hF⟩
            · intro hc135
              replace hF := bif_f hc135 hF
              refine WC.exit' ?_
              refine NX.then_e ?_
              refine NX.then_e ?_
              refine NX.blk_hit ?_
              refine NX.seq ?_
              refine WC.seq ?_
              refine WC.region ?_
              refine TL.yld rfl rfl (yld_fieldAddr rfl fo_38_0 rfl) ?_
              refine TL.yld rfl rfl (yld_load1 0 rfl ag_35 rfl (Box.cells hb64) rfl rfl) ?_
              refine TL.yld rfl rfl (ye_len (c := C_Latch) rfl Try.underlying35 rfl (slRep.old ha2 he62 (Nat.le_refl _))) ?_
              refine TL.yld rfl rfl (yld_leq rfl rfl rfl) ?_
              refine TL.yld rfl rfl (yld_move rfl rfl) ?_
              refine TL.cut 5 [(82, .bool (((decide ((a0_s.Latches.length : Int) ≤ 12)) && (decide ((a0_s.Links.length : Int) ≤ 60)))))] (fun w' => Ext w61 w') ?_ ?_
              · rcases Bool.eq_false_or_eq_true (decide ((a0_s.Latches.length : Int) ≤ 12)) with hg136 | hg136
                ·
                  refine TL.gy (j := 4) (t := 77) rfl rfl rfl hg136 rfl (yld_fieldAddr rfl fo_38_1 rfl) ?_
                  refine TL.gy (j := 4) (t := 77) rfl rfl rfl hg136 rfl (yld_load1 1 rfl ag_36 rfl (Box.cells hb64) rfl rfl) ?_
                  refine TL.gy (j := 4) (t := 77) rfl rfl rfl hg136 rfl (ye_len (c := C_LatchLink) rfl Try.underlying36 rfl (slRep.old ha4 he62 (Nat.le_refl _))) ?_
                  refine TL.gy (j := 4) (t := 77) rfl rfl rfl hg136 rfl (yld_leq rfl rfl rfl) ?_
                  refine TL.yld rfl rfl (yld_and_t rfl rfl hg136 rfl) ?_
                  exact TL.nil fun a h => ⟨h.weaken ⟨rfl, trivial⟩, Ext.refl _⟩
                ·
                  refine TL.gnu (j := 4) (t := 77) rfl rfl rfl hg136 rfl ?_
                  refine TL.gnu (j := 4) (t := 77) rfl rfl rfl hg136 rfl ?_
                  refine TL.gnu (j := 4) (t := 77) rfl rfl rfl hg136 rfl ?_
                  refine TL.gnu (j := 4) (t := 77) rfl rfl rfl hg136 rfl ?_
                  refine TL.yld rfl rfl (yld_and_f (b2 := decide ((a0_s.Links.length : Int) ≤ 60)) rfl rfl hg136 rfl) ?_
                  exact TL.nil fun a h => ⟨h.weaken ⟨rfl, trivial⟩, Ext.refl _⟩
              intro w137 hx138
              have he139 : Ext w w137 := Ext.trans he62 hx138
              have hb64 := Box.ext hb64 hx138
              have hz140 := (hx138).size
              refine TL.yld rfl rfl (yld_assign rfl rfl) ?_
              refine TL.done ?_
              refine NX.seq ?_
              refine WC.ret' ?_
              obtain rfl := Option.some.inj hF
              exact NX.end (rs := [.tmp 2]) (vs := [.bool (((decide ((a0_s.Latches.length : Int) ≤ 12)) && (decide ((a0_s.Links.length : Int) ≤ 60))))]) rfl ⟨rfl, trivial⟩ ⟨_, rfl, rfl, he139⟩

-- loop.example/g00861/spec.l18Same
def F_spec_l18Same_L1 (a0_a : List Int) (a1_b : List Int) (k0 : Int → Option Bool) : Nat → Int → Option Bool
  | 0 => fun _ => none
  | m + 1 => fun i9 => (bif decide (i9 < (a0_a.length : Int)) then (Option.bind (getI a0_a i9) fun x11 => (Option.bind (getI a1_b i9) fun x19 => (bif (x11 != x19) then (some false) else (F_spec_l18Same_L1 a0_a a1_b k0 m (IntKind.wrap IntKind.i64 (i9 + 1)))))) else (k0 i9))
theorem F_spec_l18Same_L1_z (a0_a : List Int) (a1_b : List Int) (k0 : Int → Option Bool) (i9 : Int) : F_spec_l18Same_L1 a0_a a1_b k0 0 i9 = none := rfl
theorem F_spec_l18Same_L1_s (m : Nat) (a0_a : List Int) (a1_b : List Int) (k0 : Int → Option Bool) (i9 : Int) : F_spec_l18Same_L1 a0_a a1_b k0 (m + 1) i9 = (bif decide (i9 < (a0_a.length : Int)) then (Option.bind (getI a0_a i9) fun x11 => (Option.bind (getI a1_b i9) fun x19 => (bif (x11 != x19) then (some false) else (F_spec_l18Same_L1 a0_a a1_b k0 m (IntKind.wrap IntKind.i64 (i9 + 1)))))) else (k0 i9)) := rfl

def F_spec_l18Same (n : Nat) (a0_a : List Int) (a1_b : List Int) : Option Bool := (bif (((a0_a.length : Int)) != ((a1_b.length : Int))) then (some false) else (F_spec_l18Same_L1 a0_a a1_b (fun i9 => (some true)) n 0))
set_option maxHeartbeats 40000000 in
theorem W_spec_l18Same {n : Nat} {a0_a : List Int} {a1_b : List Int} {r : Bool} {w : World} {v1 : Value} {v3 : Value} (hF : F_spec_l18Same n a0_a a1_b = some r) (ha2 : slRep (cInt .i64) w (Iv 0 w.heap.size) a0_a v1) (ha4 : slRep (cInt .i64) w (Iv 0 w.heap.size) a1_b v3) :
    Calls Try.prog 75 [v1, v3].toArray w (Ret fun u w2 => u = .bool r ∧ Ext w w2) := by
  refine calls_of Try.func75 rfl Try.ntmps75 ?_
  have he0 : Ext w w := Ext.refl w
  unfold F_spec_l18Same at hF
  refine WC.seq ?_
  refine WC.region ?_
  refine TL.yld rfl rfl (yld_assign rfl rfl) ?_
  refine TL.done ?_
  refine NX.seq ?_
  refine WC.seq ?_
  refine WC.seq ?_
  refine WC.region ?_
  refine TL.yld rfl rfl (yld_move rfl rfl) ?_
  refine TL.yld rfl rfl (ye_len (c := (cInt .i64)) rfl Try.underlying45 rfl (slRep.old ha2 he0 (Nat.le_refl _))) ?_
  refine TL.yld rfl rfl (yld_move rfl rfl) ?_
  refine TL.yld rfl rfl (ye_len (c := (cInt .i64)) rfl Try.underlying45 rfl (slRep.old ha4 he0 (Nat.le_refl _))) ?_
  refine TL.yld rfl rfl (yld_neq rfl rfl rfl) ?_
  refine TL.done ?_
  refine NX.seq ?_
  refine WC.cond rfl ?_ ?_
  · intro hc5
    replace hF := bif_t hc5 hF
    refine WC.seq ?_
    refine WC.region ?_
    refine TL.yld rfl rfl (yld_assign rfl rfl) ?_
    refine TL.done ?_
    refine NX.seq ?_
    refine WC.ret' ?_
    refine NX.then_r ?_
    obtain rfl := Option.some.inj hF
    exact NX.end (rs := [.tmp 4]) (vs := [.bool false]) rfl ⟨rfl, trivial⟩ ⟨_, rfl, rfl, he0⟩
  · intro hc6
    replace hF := bif_f hc6 hF
    refine WC.skip' ?_
    refine NX.seq ?_
    refine WC.seq ?_
    refine WC.seq ?_
    refine WC.region ?_
    refine TL.yld rfl rfl (yld_assign rfl rfl) ?_
    refine TL.done ?_
    refine NX.seq ?_
    refine WC.block ?_
    refine WC.loop (fun m10 a wl => ∃ (i9 : Int), Kn 26 [(0, v1), (1, v3), (5, .int .i64 i9)] a ∧ Ext w wl ∧ w.heap.size ≤ wl.heap.size ∧ F_spec_l18Same_L1 a0_a a1_b (fun i9 => (some true)) m10 i9 = some r) n ?_ ?_
    · intro a hK; exact ⟨0, hK.weaken ⟨rfl, rfl, rfl, trivial⟩, he0, Nat.le_refl _, hF⟩
    · rintro m10 a w7 ⟨i9, hK, he8, hz11, hF⟩
      revert hK; revert a; refine (?_ : WC _ _ _ _ _ _)
      cases m10 with
      | zero => rw [F_spec_l18Same_L1_z] at hF; cases hF
      | succ m10 =>
        rw [F_spec_l18Same_L1_s] at hF
        refine WC.seq ?_
        refine WC.seq ?_
        refine WC.region ?_
        refine TL.yld rfl rfl (yld_move rfl rfl) ?_
        refine TL.yld rfl rfl (yld_move rfl rfl) ?_
        refine TL.yld rfl rfl (ye_len (c := (cInt .i64)) rfl Try.underlying45 rfl (slRep.old ha2 he8 (Nat.le_refl _))) ?_
        refine TL.yld rfl rfl (yld_lss rfl rfl rfl) ?_
        refine TL.done ?_
        refine NX.seq ?_
        refine WC.cond rfl ?_ ?_
        · intro hc12
          replace hF := bif_t hc12 hF
          refine WC.skip' ?_
          refine NX.seq ?_
          refine WC.seq ?_
          refine WC.block ?_
          refine WC.seq ?_
          refine WC.quiet Try.hm (by kernel_rfl) ?_
          refine QL.yld rfl rfl (Yld.qui (yld_move rfl rfl)) ?_
          refine QL.yld rfl rfl (Yld.qui (yld_move rfl rfl)) ?_
          obtain ⟨x13, hy14, hF⟩ := bsome hF
          refine QL.ye rfl rfl (ye_index (c := (cInt .i64)) rfl Try.underlying45 cn_2 rfl rfl (slRep.old ha2 he8 (Nat.le_refl _)) hy14) ?_
          rintro _ ⟨b15, o16, us17, rfl, hib20, hr18, hcl19⟩
          have hib20 : 0 ≤ b15 ∧ b15 < w.heap.size := ⟨hib20.1, by have := hib20.2; omega⟩
          obtain rfl := hr18
          refine QL.yld rfl rfl (Yld.qui (yld_load1 0 rfl ag_2 rfl hcl19 rfl rfl)) ?_
          refine QL.yld rfl rfl (Yld.qui (yld_move rfl rfl)) ?_
          refine QL.yld rfl rfl (Yld.qui (yld_move rfl rfl)) ?_
          obtain ⟨x21, hy22, hF⟩ := bsome hF
          refine QL.ye rfl rfl (ye_index (c := (cInt .i64)) rfl Try.underlying45 cn_2 rfl rfl (slRep.old ha4 he8 (Nat.le_refl _)) hy22) ?_
          rintro _ ⟨b23, o24, us25, rfl, hib28, hr26, hcl27⟩
          have hib28 : 0 ≤ b23 ∧ b23 < w.heap.size := ⟨hib28.1, by have := hib28.2; omega⟩
          obtain rfl := hr26
          refine QL.yld rfl rfl (Yld.qui (yld_load1 0 rfl ag_2 rfl hcl27 rfl rfl)) ?_
          refine QL.yld rfl rfl (Yld.qui (yld_neq rfl rfl rfl)) ?_
          refine QL.done fun w29 hx30 => ?_
          have he31 : Ext w w29 := Ext.trans he8 hx30
          have hz32 := (hx30).size
          refine NX.seq ?_
          refine WC.cond rfl ?_ ?_
          · intro hc33
            replace hF := bif_t hc33 hF
            refine WC.seq ?_
            refine WC.region ?_
            refine TL.yld rfl rfl (yld_assign rfl rfl) ?_
            refine TL.done ?_
            refine NX.seq ?_
            refine WC.ret' ?_
            refine NX.blk_r ?_
            refine NX.then_r ?_
            refine NX.then_r ?_
            refine NX.blk_r ?_
            refine NX.then_r ?_
            obtain rfl := Option.some.inj hF
            exact NX.end (rs := [.tmp 4]) (vs := [.bool false]) rfl ⟨rfl, trivial⟩ ⟨_, rfl, rfl, he31⟩
          · intro hc34
            replace hF := bif_f hc34 hF
            refine WC.skip' ?_
            refine NX.blk_n ?_
            refine NX.seq ?_
            refine WC.region ?_
            refine TL.yld rfl rfl (yld_move rfl rfl) ?_
            refine TL.yld rfl rfl (yld_add rfl rfl rfl) ?_
            refine TL.yld rfl rfl (yld_assign rfl rfl) ?_
            refine TL.done ?_
            refine NX.then_n ?_
            intro a hK; exact ⟨m10, Nat.lt_succ_self m10, (IntKind.wrap IntKind.i64 (i9 + 1)), hK.weaken ⟨rfl, rfl, rfl, trivial⟩, he31, (by omega), hF⟩
        · intro hc35
          replace hF := bif_f hc35 hF
          refine WC.exit' ?_
          refine NX.then_e ?_
          refine NX.then_e ?_
          refine NX.blk_hit ?_
          refine NX.seq ?_
          refine WC.seq ?_
          refine WC.region ?_
          refine TL.yld rfl rfl (yld_assign rfl rfl) ?_
          refine TL.done ?_
          refine NX.seq ?_
          refine WC.ret' ?_
          obtain rfl := Option.some.inj hF
          exact NX.end (rs := [.tmp 4]) (vs := [.bool true]) rfl ⟨rfl, trivial⟩ ⟨_, rfl, rfl, he8⟩

-- loop.example/g00861/spec.l18Opens
def F_spec_l18Opens_L1 (a0_s : S_LatchSystem) (k0 : (List Int) → Int → Option (List Int)) : Nat → (List Int) → Int → Option (List Int)
  | 0 => fun _ _ => none
  | m + 1 => fun l27 i31 => (bif decide (i31 < (a0_s.Latches.length : Int)) then (Option.bind (getI a0_s.Latches i31) fun x35 => (Option.bind (appN l27 [x35.Open] 8) fun z56 => (F_spec_l18Opens_L1 a0_s k0 m z56 (IntKind.wrap IntKind.i64 (i31 + 1))))) else (k0 l27 i31))
theorem F_spec_l18Opens_L1_z (a0_s : S_LatchSystem) (k0 : (List Int) → Int → Option (List Int)) (l27 : List Int) (i31 : Int) : F_spec_l18Opens_L1 a0_s k0 0 l27 i31 = none := rfl
theorem F_spec_l18Opens_L1_s (m : Nat) (a0_s : S_LatchSystem) (k0 : (List Int) → Int → Option (List Int)) (l27 : List Int) (i31 : Int) : F_spec_l18Opens_L1 a0_s k0 (m + 1) l27 i31 = (bif decide (i31 < (a0_s.Latches.length : Int)) then (Option.bind (getI a0_s.Latches i31) fun x35 => (Option.bind (appN l27 [x35.Open] 8) fun z56 => (F_spec_l18Opens_L1 a0_s k0 m z56 (IntKind.wrap IntKind.i64 (i31 + 1))))) else (k0 l27 i31)) := rfl

def F_spec_l18Opens (n : Nat) (a0_s : S_LatchSystem) : Option (List Int) := (F_spec_l18Opens_L1 a0_s (fun l27 i31 => (some l27)) n (([] : List Int)) 0)
set_option maxHeartbeats 40000000 in
theorem W_spec_l18Opens {n : Nat} {a0_s : S_LatchSystem} {r : List Int} {w : World} {v1 : Value} {v3 : Value} (hF : F_spec_l18Opens n a0_s = some r) (ha2 : slRep C_Latch w (Iv 0 w.heap.size) a0_s.Latches v1) (ha4 : slRep C_LatchLink w (Iv 0 w.heap.size) a0_s.Links v3) :
    Calls Try.prog 96 [.agg #[v1, v3]].toArray w (Ret fun u w2 => ∃ v0_0, u = v0_0 ∧ ownR (cInt .i64) w2 w.heap.size (Iv 0 0) 2 r v0_0 ∧ Ext w w2) := by
  refine calls_of Try.func96 rfl Try.ntmps96 ?_
  have he0 : Ext w w := Ext.refl w
  unfold F_spec_l18Opens at hF
  refine WC.seq ?_
  refine WC.region ?_
  refine TL.eff rfl rfl (eff_box rfl rfl) ?_
  rintro _ w6 ⟨b5, rfl, hn7⟩
  obtain ⟨hn7e, hn7s, hn7x, hb8⟩ := hn7
  have hb8 : Box w6 b5 [v1, v3] 38 := hb8
  have he10 : Ext w w6 := Ext.trans he0 hn7x
  have hz11 := (hn7x).size
  have hlo9 : w.heap.size ≤ b5 := by rw [hn7e]; exact (he0).size
  refine TL.yld rfl rfl (yld_assign rfl rfl) ?_
  refine TL.done ?_
  refine NX.seq ?_
  refine WC.seq ?_
  refine WC.region ?_
  refine TL.eff rfl rfl (eff_buildSlice (c := (cInt .i64)) (xs := ([] : List Int)) (S := (Iv 0 0)) (uss := []) (out := []) rfl Try.underlying45 in_2 rfl rfl (fillL_all [] rfl rfl rfl) rfl rfl rfl rfl (one_rep (uss := []) (show reps _ _ _ _ _ from trivial) rfl) (fun k h => by have := h.2; omega) rfl) ?_
  rintro v12 w13 ⟨g14, hv15, hg16, hz17, hx18, hs19⟩
  have he20 : Ext w w13 := Ext.trans he10 hx18
  have hb8 := Box.ext hb8 hx18
  have hz21 := (hx18).size
  have hlo22 : w.heap.size ≤ g14 := by rw [hg16]; exact (he10).size
  have hbd23 := bd_of hv15
  clear hv15
  refine TL.yld rfl rfl (yld_assign rfl rfl) ?_
  refine TL.done ?_
  refine NX.seq ?_
  refine WC.seq ?_
  refine WC.seq ?_
  refine WC.region ?_
  refine TL.yld rfl rfl (yld_assign rfl rfl) ?_
  refine TL.done ?_
  refine NX.seq ?_
  refine WC.block ?_
  refine WC.loop (fun m34 a wl => ∃ (l27 : List Int) (v28 : Value) (i31 : Int), Kn 23 [(1, .pointer (some ⟨b5, 0, none⟩)), (3, v28), (4, .int .i64 i31)] a ∧ Ext w wl ∧ w13.heap.size ≤ wl.heap.size ∧ Box wl b5 [v1, v3] 38 ∧ ownR (cInt .i64) wl (g14) (Iv 0 0) 2 l27 v28 ∧ (∀ q, v28.ownBlock = some q → g14 ≤ q ∧ q < wl.heap.size) ∧ (∀ g, v28.ownBlock = some g → g ≠ b5) ∧ F_spec_l18Opens_L1 a0_s (fun l27 i31 => (some l27)) m34 l27 i31 = some r) n ?_ ?_
  · intro a hK; exact ⟨(([] : List Int)), v12, 0, hK.weaken ⟨rfl, rfl, rfl, trivial⟩, he20, Nat.le_refl _, hb8, hs19, (fun g hg => by have := hbd23 g hg; omega), (fun g hg => by have := hbd23 g hg; omega), hF⟩
  · rintro m34 a w25 ⟨l27, v28, i31, hK, he26, hz35, hb32, hs29, hbd30, hp33, hF⟩
    revert hK; revert a; refine (?_ : WC _ _ _ _ _ _)
    cases m34 with
    | zero => rw [F_spec_l18Opens_L1_z] at hF; cases hF
    | succ m34 =>
      rw [F_spec_l18Opens_L1_s] at hF
      refine WC.seq ?_
      refine WC.seq ?_
      refine WC.region ?_
      refine TL.yld rfl rfl (yld_move rfl rfl) ?_
      refine TL.yld rfl rfl (yld_fieldAddr rfl fo_38_0 rfl) ?_
      refine TL.yld rfl rfl (yld_load1 0 rfl ag_35 rfl (Box.cells hb32) rfl rfl) ?_
      refine TL.yld rfl rfl (ye_len (c := C_Latch) rfl Try.underlying35 rfl (slRep.old ha2 he26 (Nat.le_refl _))) ?_
      refine TL.yld rfl rfl (yld_lss rfl rfl rfl) ?_
      refine TL.done ?_
      refine NX.seq ?_
      refine WC.cond rfl ?_ ?_
      · intro hc36
        replace hF := bif_t hc36 hF
        refine WC.skip' ?_
        refine NX.seq ?_
        refine WC.seq ?_
        refine WC.block ?_
        refine WC.region ?_
        refine TL.yld rfl rfl (yld_move rfl rfl) ?_
        refine TL.yld rfl rfl (yld_fieldAddr rfl fo_38_0 rfl) ?_
        refine TL.yld rfl rfl (yld_load1 0 rfl ag_35 rfl (Box.cells hb32) rfl rfl) ?_
        refine TL.yld rfl rfl (yld_move rfl rfl) ?_
        obtain ⟨x37, hy38, hF⟩ := bsome hF
        refine TL.ye rfl rfl (ye_index (c := C_Latch) rfl Try.underlying35 cn_50 rfl rfl (slRep.old ha2 he26 (Nat.le_refl _)) hy38) ?_
        rintro _ ⟨b39, o40, us41, rfl, hib44, hr42, hcl43⟩
        have hib44 : 0 ≤ b39 ∧ b39 < w.heap.size := ⟨hib44.1, by have := hib44.2; omega⟩
        obtain rfl := C_Latch_open hr42
        refine TL.yld rfl rfl (yld_fieldAddr rfl fo_50_0 rfl) ?_
        refine TL.yld rfl rfl (yld_load1 0 rfl ag_2 rfl hcl43 rfl rfl) ?_
        refine TL.eff rfl rfl (eff_buildSlice (c := (cInt .i64)) (xs := [x37.Open]) (S := (Iv 0 0)) (uss := [(0, [.int .i64 x37.Open])]) (out := [.int .i64 x37.Open]) rfl Try.underlying45 in_2 rfl rfl (fillL_all [[.int .i64 x37.Open]] rfl rfl rfl) rfl rfl rfl rfl (one_rep (uss := [[.int .i64 x37.Open]]) (show reps _ _ _ _ _ from ⟨rfl, trivial⟩) rfl) (fun k h => by have := h.2; omega) rfl) ?_
        rintro v45 w46 ⟨g47, hv48, hg49, hz50, hx51, hs52⟩
        have he53 : Ext w w46 := Ext.trans he26 hx51
        have hb32 := Box.ext hb32 hx51
        have hs29 := ownR.ext hs29 hx51
        have hz54 := (hx51).size
        have hlo55 : w.heap.size ≤ g47 := by rw [hg49]; exact (he26).size
        have hbd56 := bd_of hv48
        clear hv48
        obtain ⟨z58, ha59, hF⟩ := bsome hF
        refine TL.eff rfl rfl (eff_appendF (c := (cInt .i64)) rfl Try.underlying45 in_2 rfl rfl rfl rfl rfl hs29 (by omega) (ownR.slf hs52 (Nat.le_refl _) (Nat.le_refl _)) ha59) ?_
        rintro v60 w61 ⟨hs62, hgr63⟩
        have he65 : Ext w w61 := Below.trans he53 (Grew.low hgr63 (fun g hg => by have := hbd30 g hg; omega) (he53).size)
        have hp66 : ∀ g, v60.ownBlock = some g → g ≠ b5 := Grew.sepP (p := fun g => g ≠ b5) hgr63 hp33 (fun g hg => by omega)
        have hb32 := Grew.box hgr63 hb32 hp33
        have hp67 : ∀ g q, v28.ownBlock = some g → v45.ownBlock = some q → g ≠ q := (fun g q hg hq => by have := hbd30 g hg; have := hbd56 q hq; omega)
        have hp68 : ∀ g q, v60.ownBlock = some g → v45.ownBlock = some q → g ≠ q := fun g q hg hq => Grew.sepP (p := fun g => ∀ q, v45.ownBlock = some q → g ≠ q) hgr63 (fun g hg q hq => (hp67) g q hg hq) (fun g hg q hq => by have := hbd56 q hq; omega) g hg q hq
        have hs52 := Grew.ownF hgr63 hs52 hp67
        have hz69 := (hgr63).1.size
        have hbd70 : ∀ g, v60.ownBlock = some g → g14 ≤ g ∧ g < w61.heap.size := Grew.bd hgr63 hs62 (fun g hg => ⟨by have := hbd30 g hg; omega, (hbd30 g hg).2⟩) (by omega) (by omega)
        refine TL.yld rfl rfl (yld_assign rfl rfl) ?_
        refine TL.done ?_
        refine NX.blk_n ?_
        refine NX.seq ?_
        refine WC.region ?_
        refine TL.yld rfl rfl (yld_move rfl rfl) ?_
        refine TL.yld rfl rfl (yld_add rfl rfl rfl) ?_
        refine TL.yld rfl rfl (yld_assign rfl rfl) ?_
        refine TL.done ?_
        refine NX.then_n ?_
        intro a hK; exact ⟨m34, Nat.lt_succ_self m34, z58, v60, (IntKind.wrap IntKind.i64 (i31 + 1)), hK.weaken ⟨rfl, rfl, rfl, trivial⟩, he65, (by omega), hb32, hs62, (fun g hg => by have := hbd70 g hg; omega), hp66, hF⟩
      · intro hc71
        replace hF := bif_f hc71 hF
        refine WC.exit' ?_
        refine NX.then_e ?_
        refine NX.then_e ?_
        refine NX.blk_hit ?_
        refine NX.seq ?_
        refine WC.seq ?_
        refine WC.region ?_
        refine TL.yld rfl rfl (yld_move rfl rfl) ?_
        refine TL.yld rfl rfl (yld_assign rfl rfl) ?_
        refine TL.done ?_
        refine NX.seq ?_
        refine WC.ret' ?_
        obtain rfl := Option.some.inj hF
        exact NX.end (rs := [.tmp 2]) (vs := [v28]) rfl ⟨rfl, trivial⟩ ⟨_, rfl, _, rfl, ownR.base hs29 (by omega), he26⟩

-- loop.example/g00861/spec.l18Step
def F_spec_l18Step_L1 (a0_s : S_LatchSystem) (a1_times : List Int) (k0 : Int → (List Int) → Option (List Int)) : Nat → Int → (List Int) → Option (List Int)
  | 0 => fun _ _ => none
  | m + 1 => fun i26 l28 => (bif decide (i26 < (a0_s.Links.length : Int)) then (Option.bind (getI a0_s.Links i26) fun x31 => (Option.bind (getI l28 x31.To) fun x51 => (Option.bind (getI a1_times x31.From) fun x58 => (Option.bind (getI l28 x31.To) fun x66 => (F_spec_l18Step_L1 a0_s a1_times k0 m (IntKind.wrap IntKind.i64 (i26 + 1)) ((l28.set (x31.To).toNat (max x51 (IntKind.wrap IntKind.i64 ((IntKind.wrap IntKind.i64 (x58 + x31.Delay)) - x31.Shift)))))))))) else (k0 i26 l28))
theorem F_spec_l18Step_L1_z (a0_s : S_LatchSystem) (a1_times : List Int) (k0 : Int → (List Int) → Option (List Int)) (i26 : Int) (l28 : List Int) : F_spec_l18Step_L1 a0_s a1_times k0 0 i26 l28 = none := rfl
theorem F_spec_l18Step_L1_s (m : Nat) (a0_s : S_LatchSystem) (a1_times : List Int) (k0 : Int → (List Int) → Option (List Int)) (i26 : Int) (l28 : List Int) : F_spec_l18Step_L1 a0_s a1_times k0 (m + 1) i26 l28 = (bif decide (i26 < (a0_s.Links.length : Int)) then (Option.bind (getI a0_s.Links i26) fun x31 => (Option.bind (getI l28 x31.To) fun x51 => (Option.bind (getI a1_times x31.From) fun x58 => (Option.bind (getI l28 x31.To) fun x66 => (F_spec_l18Step_L1 a0_s a1_times k0 m (IntKind.wrap IntKind.i64 (i26 + 1)) ((l28.set (x31.To).toNat (max x51 (IntKind.wrap IntKind.i64 ((IntKind.wrap IntKind.i64 (x58 + x31.Delay)) - x31.Shift)))))))))) else (k0 i26 l28)) := rfl

def F_spec_l18Step (n : Nat) (a0_s : S_LatchSystem) (a1_times : List Int) : Option (List Int) := (Option.bind (F_spec_l18Opens n a0_s) fun r14 => (F_spec_l18Step_L1 a0_s a1_times (fun i26 l28 => (some l28)) n 0 r14))
set_option maxHeartbeats 40000000 in
theorem W_spec_l18Step {n : Nat} {a0_s : S_LatchSystem} {a1_times : List Int} {r : List Int} {w : World} {v1 : Value} {v3 : Value} {v5 : Value} (hF : F_spec_l18Step n a0_s a1_times = some r) (ha2 : slRep C_Latch w (Iv 0 w.heap.size) a0_s.Latches v1) (ha4 : slRep C_LatchLink w (Iv 0 w.heap.size) a0_s.Links v3) (ha6 : slRep (cInt .i64) w (Iv 0 w.heap.size) a1_times v5) :
    Calls Try.prog 76 [.agg #[v1, v3], v5].toArray w (Ret fun u w2 => ∃ v0_0, u = v0_0 ∧ ownR (cInt .i64) w2 w.heap.size (Iv 0 0) 2 r v0_0 ∧ Ext w w2) := by
  refine calls_of Try.func76 rfl Try.ntmps76 ?_
  have he0 : Ext w w := Ext.refl w
  unfold F_spec_l18Step at hF
  refine WC.seq ?_
  refine WC.region ?_
  refine TL.eff rfl rfl (eff_box rfl rfl) ?_
  rintro _ w8 ⟨b7, rfl, hn9⟩
  obtain ⟨hn9e, hn9s, hn9x, hb10⟩ := hn9
  have hb10 : Box w8 b7 [v1, v3] 38 := hb10
  have he12 : Ext w w8 := Ext.trans he0 hn9x
  have hz13 := (hn9x).size
  have hlo11 : w.heap.size ≤ b7 := by rw [hn9e]; exact (he0).size
  refine TL.yld rfl rfl (yld_assign rfl rfl) ?_
  refine TL.done ?_
  refine NX.seq ?_
  refine WC.seq ?_
  refine WC.region ?_
  refine TL.yld rfl rfl (yld_loadN (us := [v1, v3]) rfl ag_38 rfl (Box.cells hb10) cn_38) ?_
  obtain ⟨r14, hr15, hF⟩ := bsome hF
  refine TL.eff rfl rfl (eff_call rfl gf_96 rfl (W_spec_l18Opens hr15 ((slRep.old ha2 he12 (Nat.le_refl _)).wide (Nat.le_refl _) (he12).size) ((slRep.old ha4 he12 (Nat.le_refl _)).wide (Nat.le_refl _) (he12).size))) ?_
  rintro v18 w16 ⟨_, rfl, hs19, hx17⟩
  have he22 : Ext w w16 := Ext.trans he12 hx17
  have hb10 := Box.ext hb10 hx17
  have hz23 := (hx17).size
  have hbd21 := ownR.blk hs19
  refine TL.yld rfl rfl (yld_assign rfl rfl) ?_
  refine TL.done ?_
  refine NX.seq ?_
  refine WC.seq ?_
  refine WC.seq ?_
  refine WC.region ?_
  refine TL.yld rfl rfl (yld_assign rfl rfl) ?_
  refine TL.done ?_
  refine NX.seq ?_
  refine WC.block ?_
  refine WC.loop (fun m30 a wl => ∃ (i26 : Int) (l28 : List Int), Kn 44 [(1, v5), (2, .pointer (some ⟨b7, 0, none⟩)), (5, v18), (6, .int .i64 i26)] a ∧ Ext w wl ∧ w16.heap.size ≤ wl.heap.size ∧ Box wl b7 [v1, v3] 38 ∧ ownR (cInt .i64) wl (w8.heap.size) (Iv 0 0) 2 l28 v18 ∧ F_spec_l18Step_L1 a0_s a1_times (fun i26 l28 => (some l28)) m30 i26 l28 = some r) n ?_ ?_
  · intro a hK; exact ⟨0, r14, hK.weaken ⟨rfl, rfl, rfl, rfl, trivial⟩, he22, Nat.le_refl _, hb10, hs19, hF⟩
  · rintro m30 a w24 ⟨i26, l28, hK, he25, hz31, hb27, hs29, hF⟩
    revert hK; revert a; refine (?_ : WC _ _ _ _ _ _)
    cases m30 with
    | zero => rw [F_spec_l18Step_L1_z] at hF; cases hF
    | succ m30 =>
      rw [F_spec_l18Step_L1_s] at hF
      refine WC.seq ?_
      refine WC.seq ?_
      refine WC.region ?_
      refine TL.yld rfl rfl (yld_move rfl rfl) ?_
      refine TL.yld rfl rfl (yld_fieldAddr rfl fo_38_1 rfl) ?_
      refine TL.yld rfl rfl (yld_load1 1 rfl ag_36 rfl (Box.cells hb27) rfl rfl) ?_
      refine TL.yld rfl rfl (ye_len (c := C_LatchLink) rfl Try.underlying36 rfl (slRep.old ha4 he25 (Nat.le_refl _))) ?_
      refine TL.yld rfl rfl (yld_lss rfl rfl rfl) ?_
      refine TL.done ?_
      refine NX.seq ?_
      refine WC.cond rfl ?_ ?_
      · intro hc32
        replace hF := bif_t hc32 hF
        refine WC.skip' ?_
        refine NX.seq ?_
        refine WC.seq ?_
        refine WC.block ?_
        refine WC.seq ?_
        refine WC.region ?_
        refine TL.yld rfl rfl (yld_fieldAddr rfl fo_38_1 rfl) ?_
        refine TL.yld rfl rfl (yld_load1 1 rfl ag_36 rfl (Box.cells hb27) rfl rfl) ?_
        refine TL.yld rfl rfl (yld_move rfl rfl) ?_
        obtain ⟨x33, hy34, hF⟩ := bsome hF
        refine TL.ye rfl rfl (ye_index (c := C_LatchLink) rfl Try.underlying36 cn_77 rfl rfl (slRep.old ha4 he25 (Nat.le_refl _)) hy34) ?_
        rintro _ ⟨b35, o36, us37, rfl, hib40, hr38, hcl39⟩
        have hib40 : 0 ≤ b35 ∧ b35 < w.heap.size := ⟨hib40.1, by have := hib40.2; omega⟩
        obtain rfl := C_LatchLink_open hr38
        refine TL.yld rfl rfl (yld_loadN (us := [.int .i64 x33.From, .int .i64 x33.To, .int .i64 x33.Delay, .int .i64 x33.Shift]) rfl ag_77 rfl hcl39 cn_77) ?_
        refine TL.eff rfl rfl (eff_alloc rfl zn_77) ?_
        rintro _ w42 ⟨b41, rfl, hn43⟩
        obtain ⟨hn43e, hn43s, hn43x, hb44⟩ := hn43
        have hb44 : Box w42 b41 [.int .i64 0, .int .i64 0, .int .i64 0, .int .i64 0] 77 := hb44
        have he46 : Ext w w42 := Ext.trans he25 hn43x
        have hb27 := Box.ext hb27 hn43x
        have hs29 := ownR.ext hs29 hn43x
        have hz47 := (hn43x).size
        have hlo45 : w.heap.size ≤ b41 := by rw [hn43e]; exact (he25).size
        refine TL.eff rfl rfl (eff_store rfl rfl rfl hb44 cn_77 rfl rfl) ?_
        rintro _ w48 ⟨hu49, hb50⟩
        have he51 : Ext w w48 := Below.trans he46 (Upd.below hu49 (by omega))
        have hb27 := Box.upd hb27 hu49 (by omega)
        have hs29 := ownR.upd hs29 hu49 (fun g hg => by have := hbd21 g hg; omega)
        have hz52 := (hu49).size
        have hb44 : Box w48 b41 [.int .i64 x33.From, .int .i64 x33.To, .int .i64 x33.Delay, .int .i64 x33.Shift] 77 := hb50
        refine TL.done ?_
        refine NX.seq ?_
        obtain ⟨x53, hy54, hF⟩ := bsome hF
        obtain ⟨x60, hy61, hF⟩ := bsome hF
        obtain ⟨x68, hy69, hF⟩ := bsome hF
        refine WC.held 20 Try.hm fun w80 hx81 => ?_
        have he82 : Ext w w80 := Ext.trans he51 hx81
        have hb27 := Box.ext hb27 hx81
        have hb44 := Box.ext hb44 hx81
        have hs29 := ownR.ext hs29 hx81
        have hz83 := (hx81).size
        refine HL.yld 0 (by kernel_rfl) rfl (by kernel_rfl) rfl rfl (yld_move rfl rfl) ?_
        refine HL.yld 1 (by kernel_rfl) rfl (by kernel_rfl) rfl rfl (yld_fieldAddr rfl fo_77_1 rfl) ?_
        refine HL.yld 2 (by kernel_rfl) rfl (by kernel_rfl) rfl rfl (yld_load1 1 rfl ag_2 rfl (Box.cells hb44) rfl rfl) ?_
        refine HL.yld 3 (by kernel_rfl) rfl (by kernel_rfl) rfl rfl (yld_move rfl rfl) ?_
        refine HL.yld 4 (by kernel_rfl) rfl (by kernel_rfl) rfl rfl (yld_fieldAddr rfl fo_77_1 rfl) ?_
        refine HL.yld 5 (by kernel_rfl) rfl (by kernel_rfl) rfl rfl (yld_load1 1 rfl ag_2 rfl (Box.cells hb44) rfl rfl) ?_
        refine HL.ye 6 (by kernel_rfl) rfl (by kernel_rfl) rfl rfl (ye_index_own (c := (cInt .i64)) rfl Try.underlying45 cn_2 rfl rfl hs29 hy54) ?_
        rintro _ ⟨g84, us86, rfl, hg85, hr87, hcl88⟩
        have hr87r := hr87
        obtain rfl := hr87
        refine HL.yld 7 (by kernel_rfl) rfl (by kernel_rfl) rfl rfl (yld_load1 0 rfl ag_2 rfl hcl88 rfl rfl) ?_
        refine HL.yld 8 (by kernel_rfl) rfl (by kernel_rfl) rfl rfl (yld_move rfl rfl) ?_
        refine HL.yld 9 (by kernel_rfl) rfl (by kernel_rfl) rfl rfl (yld_fieldAddr rfl fo_77_0 rfl) ?_
        refine HL.yld 10 (by kernel_rfl) rfl (by kernel_rfl) rfl rfl (yld_load1 0 rfl ag_2 rfl (Box.cells hb44) rfl rfl) ?_
        refine HL.ye 11 (by kernel_rfl) rfl (by kernel_rfl) rfl rfl (ye_index (c := (cInt .i64)) rfl Try.underlying45 cn_2 rfl rfl (slRep.old ha6 he82 (Nat.le_refl _)) hy61) ?_
        rintro _ ⟨b89, o90, us91, rfl, hib94, hr92, hcl93⟩
        have hib94 : 0 ≤ b89 ∧ b89 < w.heap.size := ⟨hib94.1, by have := hib94.2; omega⟩
        obtain rfl := hr92
        refine HL.yld 12 (by kernel_rfl) rfl (by kernel_rfl) rfl rfl (yld_load1 0 rfl ag_2 rfl hcl93 rfl rfl) ?_
        refine HL.yld 13 (by kernel_rfl) rfl (by kernel_rfl) rfl rfl (yld_fieldAddr rfl fo_77_2 rfl) ?_
        refine HL.yld 14 (by kernel_rfl) rfl (by kernel_rfl) rfl rfl (yld_load1 2 rfl ag_2 rfl (Box.cells hb44) rfl rfl) ?_
        refine HL.yld 15 (by kernel_rfl) rfl (by kernel_rfl) rfl rfl (yld_add rfl rfl rfl) ?_
        refine HL.yld 16 (by kernel_rfl) rfl (by kernel_rfl) rfl rfl (yld_fieldAddr rfl fo_77_3 rfl) ?_
        refine HL.yld 17 (by kernel_rfl) rfl (by kernel_rfl) rfl rfl (yld_load1 3 rfl ag_2 rfl (Box.cells hb44) rfl rfl) ?_
        refine HL.yld 18 (by kernel_rfl) rfl (by kernel_rfl) rfl rfl (yld_sub rfl rfl rfl) ?_
        refine HL.yld 19 (by kernel_rfl) rfl (by kernel_rfl) rfl rfl (yld_max2 rfl rfl rfl) ?_
        refine HL.tail rfl (by kernel_rfl) rfl ?_
        refine TL.ye rfl rfl (ye_index_own (c := (cInt .i64)) rfl Try.underlying45 cn_2 rfl rfl hs29 hy69) ?_
        rintro _ ⟨g95, us97, rfl, hg96, hr98, hcl99⟩
        have hr98r := hr98
        obtain rfl := hr98
        refine TL.eff rfl rfl (eff_store_own (c := (cInt .i64)) (us' := [.int .i64 (max x53 (IntKind.wrap IntKind.i64 ((IntKind.wrap IntKind.i64 (x60 + x33.Delay)) - x33.Shift)))]) (y' := max x53 (IntKind.wrap IntKind.i64 ((IntKind.wrap IntKind.i64 (x60 + x33.Delay)) - x33.Shift))) 0 _ rfl rfl rfl hs29 hg96 hy69 rfl cn_2 rfl hr98r hcl99 rfl rfl rfl (fun k h => absurd h.2 (Nat.not_lt_zero k))) ?_
        rintro _ w100 ⟨hu101, hs102⟩
        have he103 : Ext w w100 := Below.trans he82 (Upd.below hu101 (by have := hbd21 _ hg96; omega))
        have hb27 := Box.upd hb27 hu101 (by have := hbd21 _ hg96; omega)
        have hb44 := Box.upd hb44 hu101 (by have := hbd21 _ hg96; omega)
        have hz104 := (hu101).size
        refine TL.noPan (l := []) ?_
        refine NX.blk_n ?_
        refine NX.seq ?_
        refine WC.region ?_
        refine TL.yld rfl rfl (yld_move rfl rfl) ?_
        refine TL.yld rfl rfl (yld_add rfl rfl rfl) ?_
        refine TL.yld rfl rfl (yld_assign rfl rfl) ?_
        refine TL.done ?_
        refine NX.then_n ?_
        intro a hK; exact ⟨m30, Nat.lt_succ_self m30, (IntKind.wrap IntKind.i64 (i26 + 1)), ((l28.set (x33.To).toNat (max x53 (IntKind.wrap IntKind.i64 ((IntKind.wrap IntKind.i64 (x60 + x33.Delay)) - x33.Shift))))), hK.weaken ⟨rfl, rfl, rfl, rfl, trivial⟩, he103, (by omega), hb27, hs102, hF⟩
      · intro hc105
        replace hF := bif_f hc105 hF
        refine WC.exit' ?_
        refine NX.then_e ?_
        refine NX.then_e ?_
        refine NX.blk_hit ?_
        refine NX.seq ?_
        refine WC.seq ?_
        refine WC.region ?_
        refine TL.yld rfl rfl (yld_move rfl rfl) ?_
        refine TL.yld rfl rfl (yld_assign rfl rfl) ?_
        refine TL.done ?_
        refine NX.seq ?_
        refine WC.ret' ?_
        obtain rfl := Option.some.inj hF
        exact NX.end (rs := [.tmp 4]) (vs := [v18]) rfl ⟨rfl, trivial⟩ ⟨_, rfl, _, rfl, ownR.base hs29 (by omega), he25⟩

-- loop.example/g00861/spec.l18Departures
def F_spec_l18Departures_L1 (n : Nat) (a0_s : S_LatchSystem) (k0 : (List Int) → Int → Option ((List Int) × Bool)) : Nat → (List Int) → Int → Option ((List Int) × Bool)
  | 0 => fun _ _ => none
  | m + 1 => fun l24 i28 => (bif decide (i28 ≤ (a0_s.Latches.length : Int)) then (Option.bind (F_spec_l18Step n a0_s l24) fun r32 => (Option.bind (F_spec_l18Same n r32 l24) fun r42 => (bif r42 then (some (l24, true)) else (F_spec_l18Departures_L1 n a0_s k0 m r32 (IntKind.wrap IntKind.i64 (i28 + 1)))))) else (k0 l24 i28))
theorem F_spec_l18Departures_L1_z (n : Nat) (a0_s : S_LatchSystem) (k0 : (List Int) → Int → Option ((List Int) × Bool)) (l24 : List Int) (i28 : Int) : F_spec_l18Departures_L1 n a0_s k0 0 l24 i28 = none := rfl
theorem F_spec_l18Departures_L1_s (m : Nat) (n : Nat) (a0_s : S_LatchSystem) (k0 : (List Int) → Int → Option ((List Int) × Bool)) (l24 : List Int) (i28 : Int) : F_spec_l18Departures_L1 n a0_s k0 (m + 1) l24 i28 = (bif decide (i28 ≤ (a0_s.Latches.length : Int)) then (Option.bind (F_spec_l18Step n a0_s l24) fun r32 => (Option.bind (F_spec_l18Same n r32 l24) fun r42 => (bif r42 then (some (l24, true)) else (F_spec_l18Departures_L1 n a0_s k0 m r32 (IntKind.wrap IntKind.i64 (i28 + 1)))))) else (k0 l24 i28)) := rfl

def F_spec_l18Departures (n : Nat) (a0_s : S_LatchSystem) : Option ((List Int) × Bool) := (Option.bind (F_spec_l18Opens n a0_s) fun r12 => (F_spec_l18Departures_L1 n a0_s (fun l24 i28 => (some (([] : List Int), false))) n r12 0))
set_option maxHeartbeats 40000000 in
theorem W_spec_l18Departures {n : Nat} {a0_s : S_LatchSystem} {r : (List Int) × Bool} {w : World} {v1 : Value} {v3 : Value} (hF : F_spec_l18Departures n a0_s = some r) (ha2 : slRep C_Latch w (Iv 0 w.heap.size) a0_s.Latches v1) (ha4 : slRep C_LatchLink w (Iv 0 w.heap.size) a0_s.Links v3) :
    Calls Try.prog 95 [.agg #[v1, v3]].toArray w (Ret fun u w2 => ∃ v0_0, u = .tuple #[v0_0, .bool r.2] ∧ ownR (cInt .i64) w2 w.heap.size (Iv 0 0) 2 r.1 v0_0 ∧ Ext w w2) := by
  refine calls_of Try.func95 rfl Try.ntmps95 ?_
  have he0 : Ext w w := Ext.refl w
  unfold F_spec_l18Departures at hF
  refine WC.seq ?_
  refine WC.region ?_
  refine TL.eff rfl rfl (eff_box rfl rfl) ?_
  rintro _ w6 ⟨b5, rfl, hn7⟩
  obtain ⟨hn7e, hn7s, hn7x, hb8⟩ := hn7
  have hb8 : Box w6 b5 [v1, v3] 38 := hb8
  have he10 : Ext w w6 := Ext.trans he0 hn7x
  have hz11 := (hn7x).size
  have hlo9 : w.heap.size ≤ b5 := by rw [hn7e]; exact (he0).size
  refine TL.yld rfl rfl (yld_assign rfl rfl) ?_
  refine TL.yld rfl rfl (yld_assign rfl rfl) ?_
  refine TL.done ?_
  refine NX.seq ?_
  refine WC.seq ?_
  refine WC.region ?_
  refine TL.yld rfl rfl (yld_loadN (us := [v1, v3]) rfl ag_38 rfl (Box.cells hb8) cn_38) ?_
  obtain ⟨r12, hr13, hF⟩ := bsome hF
  refine TL.eff rfl rfl (eff_call rfl gf_96 rfl (W_spec_l18Opens hr13 ((slRep.old ha2 he10 (Nat.le_refl _)).wide (Nat.le_refl _) (he10).size) ((slRep.old ha4 he10 (Nat.le_refl _)).wide (Nat.le_refl _) (he10).size))) ?_
  rintro v16 w14 ⟨_, rfl, hs17, hx15⟩
  have he20 : Ext w w14 := Ext.trans he10 hx15
  have hb8 := Box.ext hb8 hx15
  have hz21 := (hx15).size
  have hbd19 := ownR.blk hs17
  refine TL.yld rfl rfl (yld_assign rfl rfl) ?_
  refine TL.done ?_
  refine NX.seq ?_
  refine WC.seq ?_
  refine WC.seq ?_
  refine WC.region ?_
  refine TL.yld rfl rfl (yld_assign rfl rfl) ?_
  refine TL.done ?_
  refine NX.seq ?_
  refine WC.block ?_
  refine WC.loop (fun m31 a wl => ∃ (l24 : List Int) (v25 : Value) (i28 : Int), Kn 25 [(1, .pointer (some ⟨b5, 0, none⟩)), (4, v25), (5, .int .i64 i28)] a ∧ Ext w wl ∧ w14.heap.size ≤ wl.heap.size ∧ Box wl b5 [v1, v3] 38 ∧ ownR (cInt .i64) wl (w6.heap.size) (Iv 0 0) 2 l24 v25 ∧ (∀ q, v25.ownBlock = some q → w6.heap.size ≤ q ∧ q < wl.heap.size) ∧ (∀ g, v25.ownBlock = some g → g ≠ b5) ∧ F_spec_l18Departures_L1 n a0_s (fun l24 i28 => (some (([] : List Int), false))) m31 l24 i28 = some r) n ?_ ?_
  · intro a hK; exact ⟨r12, v16, 0, hK.weaken ⟨rfl, rfl, rfl, trivial⟩, he20, Nat.le_refl _, hb8, hs17, (fun g hg => by have := hbd19 g hg; omega), (fun g hg => by have := hbd19 g hg; omega), hF⟩
  · rintro m31 a w22 ⟨l24, v25, i28, hK, he23, hz32, hb29, hs26, hbd27, hp30, hF⟩
    revert hK; revert a; refine (?_ : WC _ _ _ _ _ _)
    cases m31 with
    | zero => rw [F_spec_l18Departures_L1_z] at hF; cases hF
    | succ m31 =>
      rw [F_spec_l18Departures_L1_s] at hF
      refine WC.seq ?_
      refine WC.seq ?_
      refine WC.region ?_
      refine TL.yld rfl rfl (yld_move rfl rfl) ?_
      refine TL.yld rfl rfl (yld_fieldAddr rfl fo_38_0 rfl) ?_
      refine TL.yld rfl rfl (yld_load1 0 rfl ag_35 rfl (Box.cells hb29) rfl rfl) ?_
      refine TL.yld rfl rfl (ye_len (c := C_Latch) rfl Try.underlying35 rfl (slRep.old ha2 he23 (Nat.le_refl _))) ?_
      refine TL.yld rfl rfl (yld_leq rfl rfl rfl) ?_
      refine TL.done ?_
      refine NX.seq ?_
      refine WC.cond rfl ?_ ?_
      · intro hc33
        replace hF := bif_t hc33 hF
        refine WC.skip' ?_
        refine NX.seq ?_
        refine WC.seq ?_
        refine WC.block ?_
        refine WC.seq ?_
        refine WC.region ?_
        refine TL.yld rfl rfl (yld_loadN (us := [v1, v3]) rfl ag_38 rfl (Box.cells hb29) cn_38) ?_
        refine TL.yld rfl rfl (yld_move rfl rfl) ?_
        obtain ⟨r34, hr35, hF⟩ := bsome hF
        refine TL.eff rfl rfl (eff_call rfl gf_76 rfl (W_spec_l18Step hr35 ((slRep.old ha2 he23 (Nat.le_refl _)).wide (Nat.le_refl _) (he23).size) ((slRep.old ha4 he23 (Nat.le_refl _)).wide (Nat.le_refl _) (he23).size) (ownR.slf hs26 (Nat.zero_le _) (Nat.le_refl _)))) ?_
        rintro v38 w36 ⟨_, rfl, hs39, hx37⟩
        have he42 : Ext w w36 := Ext.trans he23 hx37
        have hb29 := Box.ext hb29 hx37
        have hs26 := ownR.ext hs26 hx37
        have hz43 := (hx37).size
        have hbd41 := ownR.blk hs39
        refine TL.yld rfl rfl (yld_assign rfl rfl) ?_
        refine TL.done ?_
        refine NX.seq ?_
        refine WC.seq ?_
        refine WC.seq ?_
        refine WC.region ?_
        refine TL.yld rfl rfl (yld_move rfl rfl) ?_
        refine TL.yld rfl rfl (yld_move rfl rfl) ?_
        obtain ⟨r44, hr45, hF⟩ := bsome hF
        refine TL.eff rfl rfl (eff_call rfl gf_75 rfl (W_spec_l18Same hr45 (ownR.slf hs39 (Nat.zero_le _) (Nat.le_refl _)) (ownR.slf hs26 (Nat.zero_le _) (Nat.le_refl _)))) ?_
        rintro _ w46 ⟨rfl, hx47⟩
        have he48 : Ext w w46 := Ext.trans he42 hx47
        have hb29 := Box.ext hb29 hx47
        have hs26 := ownR.ext hs26 hx47
        have hs39 := ownR.ext hs39 hx47
        have hz49 := (hx47).size
        refine TL.done ?_
        refine NX.seq ?_
        refine WC.cond rfl ?_ ?_
        · intro hc50
          replace hF := bif_t hc50 hF
          refine WC.seq ?_
          refine WC.region ?_
          refine TL.yld rfl rfl (yld_move rfl rfl) ?_
          refine TL.yld rfl rfl (yld_assign rfl rfl) ?_
          refine TL.yld rfl rfl (yld_assign rfl rfl) ?_
          refine TL.done ?_
          refine NX.seq ?_
          refine WC.ret' ?_
          refine NX.then_r ?_
          refine NX.blk_r ?_
          refine NX.then_r ?_
          refine NX.then_r ?_
          refine NX.blk_r ?_
          refine NX.then_r ?_
          obtain rfl := Option.some.inj hF
          exact NX.end (rs := [.tmp 2, .tmp 3]) (vs := [v25, .bool true]) rfl ⟨rfl, rfl, trivial⟩ ⟨_, rfl, _, rfl, ownR.base hs26 (by omega), he48⟩
        · intro hc51
          replace hF := bif_f hc51 hF
          refine WC.skip' ?_
          refine NX.seq ?_
          refine WC.region ?_
          refine TL.yld rfl rfl (yld_move rfl rfl) ?_
          refine TL.yld rfl rfl (yld_assign rfl rfl) ?_
          refine TL.done ?_
          refine NX.blk_n ?_
          refine NX.seq ?_
          refine WC.region ?_
          refine TL.yld rfl rfl (yld_move rfl rfl) ?_
          refine TL.yld rfl rfl (yld_add rfl rfl rfl) ?_
          refine TL.yld rfl rfl (yld_assign rfl rfl) ?_
          refine TL.done ?_
          refine NX.then_n ?_
          intro a hK; exact ⟨m31, Nat.lt_succ_self m31, r34, v38, (IntKind.wrap IntKind.i64 (i28 + 1)), hK.weaken ⟨rfl, rfl, rfl, trivial⟩, he48, (by omega), hb29, (ownR.base hs39 (by omega)), (fun g hg => by have := hbd41 g hg; omega), (fun g hg => by have := hbd41 g hg; omega), hF⟩
      · intro hc52
        replace hF := bif_f hc52 hF
        refine WC.exit' ?_
        refine NX.then_e ?_
        refine NX.then_e ?_
        refine NX.blk_hit ?_
        refine NX.seq ?_
        refine WC.seq ?_
        refine WC.region ?_
        refine TL.eff rfl rfl (eff_buildSlice (c := (cInt .i64)) (xs := ([] : List Int)) (S := (Iv 0 0)) (uss := []) (out := []) rfl Try.underlying45 in_2 rfl rfl (fillL_all [] rfl rfl rfl) rfl rfl rfl rfl (one_rep (uss := []) (show reps _ _ _ _ _ from trivial) rfl) (fun k h => by have := h.2; omega) rfl) ?_
        rintro v53 w54 ⟨g55, hv56, hg57, hz58, hx59, hs60⟩
        have he61 : Ext w w54 := Ext.trans he23 hx59
        have hb29 := Box.ext hb29 hx59
        have hs26 := ownR.ext hs26 hx59
        have hz62 := (hx59).size
        have hlo63 : w.heap.size ≤ g55 := by rw [hg57]; exact (he23).size
        have hbd64 := bd_of hv56
        clear hv56
        refine TL.yld rfl rfl (yld_assign rfl rfl) ?_
        refine TL.yld rfl rfl (yld_assign rfl rfl) ?_
        refine TL.done ?_
        refine NX.seq ?_
        refine WC.ret' ?_
        obtain rfl := Option.some.inj hF
        exact NX.end (rs := [.tmp 2, .tmp 3]) (vs := [v53, .bool false]) rfl ⟨rfl, rfl, trivial⟩ ⟨_, rfl, _, rfl, ownR.base hs60 (by omega), he61⟩

-- loop.example/g00861/spec.l18Code
def F_spec_l18Code (n : Nat) (a0_s : S_LatchSystem) : Option ((List Int) × Int) := (Option.bind (F_spec_IsLatchSystem n a0_s) fun r12 => (bif (!r12) then (some (([] : List Int), 1)) else (Option.bind (F_spec_l18Departures n a0_s) fun r33 => (bif (!r33.2) then (some (([] : List Int), 7)) else (some (r33.1, 0))))))
set_option maxHeartbeats 40000000 in
theorem W_spec_l18Code {n : Nat} {a0_s : S_LatchSystem} {r : (List Int) × Int} {w : World} {v1 : Value} {v3 : Value} (hF : F_spec_l18Code n a0_s = some r) (ha2 : slRep C_Latch w (Iv 0 w.heap.size) a0_s.Latches v1) (ha4 : slRep C_LatchLink w (Iv 0 w.heap.size) a0_s.Links v3) :
    Calls Try.prog 67 [.agg #[v1, v3]].toArray w (Ret fun u w2 => ∃ v0_0, u = .tuple #[v0_0, .int .i64 r.2] ∧ ownR (cInt .i64) w2 w.heap.size (Iv 0 0) 2 r.1 v0_0 ∧ Ext w w2) := by
  refine calls_of Try.func67 rfl Try.ntmps67 ?_
  have he0 : Ext w w := Ext.refl w
  unfold F_spec_l18Code at hF
  refine WC.seq ?_
  refine WC.region ?_
  refine TL.eff rfl rfl (eff_box rfl rfl) ?_
  rintro _ w6 ⟨b5, rfl, hn7⟩
  obtain ⟨hn7e, hn7s, hn7x, hb8⟩ := hn7
  have hb8 : Box w6 b5 [v1, v3] 38 := hb8
  have he10 : Ext w w6 := Ext.trans he0 hn7x
  have hz11 := (hn7x).size
  have hlo9 : w.heap.size ≤ b5 := by rw [hn7e]; exact (he0).size
  refine TL.yld rfl rfl (yld_assign rfl rfl) ?_
  refine TL.yld rfl rfl (yld_assign rfl rfl) ?_
  refine TL.done ?_
  refine NX.seq ?_
  refine WC.seq ?_
  refine WC.seq ?_
  refine WC.region ?_
  refine TL.yld rfl rfl (yld_loadN (us := [v1, v3]) rfl ag_38 rfl (Box.cells hb8) cn_38) ?_
  obtain ⟨r12, hr13, hF⟩ := bsome hF
  refine TL.eff rfl rfl (eff_call rfl gf_19 rfl (W_spec_IsLatchSystem hr13 ((slRep.old ha2 he10 (Nat.le_refl _)).wide (Nat.le_refl _) (he10).size) ((slRep.old ha4 he10 (Nat.le_refl _)).wide (Nat.le_refl _) (he10).size))) ?_
  rintro _ w14 ⟨rfl, hx15⟩
  have he16 : Ext w w14 := Ext.trans he10 hx15
  have hb8 := Box.ext hb8 hx15
  have hz17 := (hx15).size
  refine TL.yld rfl rfl (yld_not rfl rfl) ?_
  refine TL.done ?_
  refine NX.seq ?_
  refine WC.cond rfl ?_ ?_
  · intro hc18
    replace hF := bif_t hc18 hF
    refine WC.seq ?_
    refine WC.region ?_
    refine TL.eff rfl rfl (eff_buildSlice (c := (cInt .i64)) (xs := ([] : List Int)) (S := (Iv 0 0)) (uss := []) (out := []) rfl Try.underlying45 in_2 rfl rfl (fillL_all [] rfl rfl rfl) rfl rfl rfl rfl (one_rep (uss := []) (show reps _ _ _ _ _ from trivial) rfl) (fun k h => by have := h.2; omega) rfl) ?_
    rintro v19 w20 ⟨g21, hv22, hg23, hz24, hx25, hs26⟩
    have he27 : Ext w w20 := Ext.trans he16 hx25
    have hb8 := Box.ext hb8 hx25
    have hz28 := (hx25).size
    have hlo29 : w.heap.size ≤ g21 := by rw [hg23]; exact (he16).size
    have hbd30 := bd_of hv22
    clear hv22
    refine TL.yld rfl rfl (yld_assign rfl rfl) ?_
    refine TL.yld rfl rfl (yld_assign rfl rfl) ?_
    refine TL.done ?_
    refine NX.seq ?_
    refine WC.ret' ?_
    refine NX.then_r ?_
    obtain rfl := Option.some.inj hF
    exact NX.end (rs := [.tmp 2, .tmp 3]) (vs := [v19, .int .i64 1]) rfl ⟨rfl, rfl, trivial⟩ ⟨_, rfl, _, rfl, ownR.base hs26 (by omega), he27⟩
  · intro hc32
    replace hF := bif_f hc32 hF
    refine WC.skip' ?_
    refine NX.seq ?_
    refine WC.seq ?_
    refine WC.region ?_
    refine TL.yld rfl rfl (yld_loadN (us := [v1, v3]) rfl ag_38 rfl (Box.cells hb8) cn_38) ?_
    obtain ⟨r33, hr34, hF⟩ := bsome hF
    refine TL.eff rfl rfl (eff_call rfl gf_95 rfl (W_spec_l18Departures hr34 ((slRep.old ha2 he16 (Nat.le_refl _)).wide (Nat.le_refl _) (he16).size) ((slRep.old ha4 he16 (Nat.le_refl _)).wide (Nat.le_refl _) (he16).size))) ?_
    rintro _ w35 ⟨v37, rfl, hs38, hx36⟩
    have he41 : Ext w w35 := Ext.trans he16 hx36
    have hb8 := Box.ext hb8 hx36
    have hz42 := (hx36).size
    have hbd40 := ownR.blk hs38
    refine TL.yld rfl rfl (yld_move rfl rfl) ?_
    refine TL.yld rfl rfl (yld_extract rfl rfl rfl) ?_
    refine TL.yld rfl rfl (yld_extract rfl rfl rfl) ?_
    refine TL.yld rfl rfl (yld_assign rfl rfl) ?_
    refine TL.yld rfl rfl (yld_assign rfl rfl) ?_
    refine TL.done ?_
    refine NX.seq ?_
    refine WC.seq ?_
    refine WC.seq ?_
    refine WC.region ?_
    refine TL.yld rfl rfl (yld_move rfl rfl) ?_
    refine TL.yld rfl rfl (yld_not rfl rfl) ?_
    refine TL.done ?_
    refine NX.seq ?_
    refine WC.cond rfl ?_ ?_
    · intro hc43
      replace hF := bif_t hc43 hF
      refine WC.seq ?_
      refine WC.region ?_
      refine TL.eff rfl rfl (eff_buildSlice (c := (cInt .i64)) (xs := ([] : List Int)) (S := (Iv 0 0)) (uss := []) (out := []) rfl Try.underlying45 in_2 rfl rfl (fillL_all [] rfl rfl rfl) rfl rfl rfl rfl (one_rep (uss := []) (show reps _ _ _ _ _ from trivial) rfl) (fun k h => by have := h.2; omega) rfl) ?_
      rintro v44 w45 ⟨g46, hv47, hg48, hz49, hx50, hs51⟩
      have he52 : Ext w w45 := Ext.trans he41 hx50
      have hb8 := Box.ext hb8 hx50
      have hs38 := ownR.ext hs38 hx50
      have hz53 := (hx50).size
      have hlo54 : w.heap.size ≤ g46 := by rw [hg48]; exact (he41).size
      have hbd55 := bd_of hv47
      clear hv47
      refine TL.yld rfl rfl (yld_assign rfl rfl) ?_
      refine TL.yld rfl rfl (yld_assign rfl rfl) ?_
      refine TL.done ?_
      refine NX.seq ?_
      refine WC.ret' ?_
      refine NX.then_r ?_
      obtain rfl := Option.some.inj hF
      exact NX.end (rs := [.tmp 2, .tmp 3]) (vs := [v44, .int .i64 7]) rfl ⟨rfl, rfl, trivial⟩ ⟨_, rfl, _, rfl, ownR.base hs51 (by omega), he52⟩
    · intro hc57
      replace hF := bif_f hc57 hF
      refine WC.skip' ?_
      refine NX.seq ?_
      refine WC.seq ?_
      refine WC.region ?_
      refine TL.yld rfl rfl (yld_move rfl rfl) ?_
      refine TL.yld rfl rfl (yld_assign rfl rfl) ?_
      refine TL.yld rfl rfl (yld_assign rfl rfl) ?_
      refine TL.done ?_
      refine NX.seq ?_
      refine WC.ret' ?_
      obtain rfl := Option.some.inj hF
      exact NX.end (rs := [.tmp 2, .tmp 3]) (vs := [v37, .int .i64 0]) rfl ⟨rfl, rfl, trivial⟩ ⟨_, rfl, _, rfl, ownR.base hs38 (by omega), he41⟩

-- loop.example/g00861/spec.LatchDepartures
def F_spec_LatchDepartures (n : Nat) (a0_s : S_LatchSystem) : Option ((List Int) × Int) := (Option.bind (F_spec_l18Code n a0_s) fun r12 => (some (r12.1, r12.2)))
set_option maxHeartbeats 40000000 in
theorem W_spec_LatchDepartures {n : Nat} {a0_s : S_LatchSystem} {r : (List Int) × Int} {w : World} {v1 : Value} {v3 : Value} (hF : F_spec_LatchDepartures n a0_s = some r) (ha2 : slRep C_Latch w (Iv 0 w.heap.size) a0_s.Latches v1) (ha4 : slRep C_LatchLink w (Iv 0 w.heap.size) a0_s.Links v3) :
    Calls Try.prog 39 [.agg #[v1, v3]].toArray w (Ret fun u w2 => ∃ v0_0, u = .tuple #[v0_0, .int .i64 r.2] ∧ ownR (cInt .i64) w2 w.heap.size (Iv 0 0) 2 r.1 v0_0 ∧ Ext w w2) := by
  refine calls_of Try.func39 rfl Try.ntmps39 ?_
  have he0 : Ext w w := Ext.refl w
  unfold F_spec_LatchDepartures at hF
  refine WC.seq ?_
  refine WC.region ?_
  refine TL.eff rfl rfl (eff_box rfl rfl) ?_
  rintro _ w6 ⟨b5, rfl, hn7⟩
  obtain ⟨hn7e, hn7s, hn7x, hb8⟩ := hn7
  have hb8 : Box w6 b5 [v1, v3] 38 := hb8
  have he10 : Ext w w6 := Ext.trans he0 hn7x
  have hz11 := (hn7x).size
  have hlo9 : w.heap.size ≤ b5 := by rw [hn7e]; exact (he0).size
  refine TL.yld rfl rfl (yld_assign rfl rfl) ?_
  refine TL.yld rfl rfl (yld_assign rfl rfl) ?_
  refine TL.done ?_
  refine NX.seq ?_
  refine WC.seq ?_
  refine WC.region ?_
  refine TL.yld rfl rfl (yld_loadN (us := [v1, v3]) rfl ag_38 rfl (Box.cells hb8) cn_38) ?_
  obtain ⟨r12, hr13, hF⟩ := bsome hF
  refine TL.eff rfl rfl (eff_call rfl gf_67 rfl (W_spec_l18Code hr13 ((slRep.old ha2 he10 (Nat.le_refl _)).wide (Nat.le_refl _) (he10).size) ((slRep.old ha4 he10 (Nat.le_refl _)).wide (Nat.le_refl _) (he10).size))) ?_
  rintro _ w14 ⟨v16, rfl, hs17, hx15⟩
  have he20 : Ext w w14 := Ext.trans he10 hx15
  have hb8 := Box.ext hb8 hx15
  have hz21 := (hx15).size
  have hbd19 := ownR.blk hs17
  refine TL.yld rfl rfl (yld_extract rfl rfl rfl) ?_
  refine TL.yld rfl rfl (yld_extract rfl rfl rfl) ?_
  refine TL.yld rfl rfl (yld_assign rfl rfl) ?_
  refine TL.yld rfl rfl (yld_assign rfl rfl) ?_
  refine TL.done ?_
  refine NX.seq ?_
  refine WC.ret' ?_
  obtain rfl := Option.some.inj hF
  exact NX.end (rs := [.tmp 2, .tmp 3]) (vs := [v16, .int .i64 r12.2]) rfl ⟨rfl, rfl, trivial⟩ ⟨_, rfl, _, rfl, ownR.base hs17 (by omega), he20⟩

-- (*loop.example/g00861/laws.dice).below
def F_laws_dice_below (n : Nat) (a0_d : S_dice) (a1_n : Int) : Option (Int × S_dice) := (bif decide (a0_d.i_ < (a0_d.b_.length : Int)) then (Option.bind (getI a0_d.b_ a0_d.i_) fun x18 => (bif (a1_n == 0) then none else (some (Int.tmod (IntKind.wrap IntKind.i64 ((IntKind.wrap IntKind.i64 (andK .u64 (shrK .u64 (IntKind.wrap IntKind.u64 ((IntKind.wrap IntKind.u64 (a0_d.h_ * 6364136223846793005)) + 1442695040888963407)) 33) 16777215)) + (IntKind.wrap IntKind.i64 x18))) a1_n, (S_dice.mk a0_d.b_ (IntKind.wrap IntKind.i64 (a0_d.i_ + 1)) (IntKind.wrap IntKind.u64 ((IntKind.wrap IntKind.u64 (a0_d.h_ * 6364136223846793005)) + 1442695040888963407))))))) else (bif (a1_n == 0) then none else (some (Int.tmod (IntKind.wrap IntKind.i64 (andK .u64 (shrK .u64 (IntKind.wrap IntKind.u64 ((IntKind.wrap IntKind.u64 (a0_d.h_ * 6364136223846793005)) + 1442695040888963407)) 33) 16777215)) a1_n, (S_dice.mk a0_d.b_ a0_d.i_ (IntKind.wrap IntKind.u64 ((IntKind.wrap IntKind.u64 (a0_d.h_ * 6364136223846793005)) + 1442695040888963407)))))))
set_option maxHeartbeats 40000000 in
theorem W_laws_dice_below {n : Nat} {a0_d : S_dice} {a1_n : Int} {r : Int × S_dice} {w : World} {v1 : Value} {lo3 hi4 : Nat} {b0_ : Nat} (hF : F_laws_dice_below n a0_d a1_n = some r) (hb5 : Box w b0_ [v1, .int .i64 a0_d.i_, .int .u64 a0_d.h_] 99) (ha2 : slRep (cInt .u8) w (Iv lo3 hi4) a0_d.b_ v1) (hh6 : hi4 ≤ w.heap.size) (hh7 : b0_ < lo3 ∨ hi4 ≤ b0_) :
    Calls Try.prog 40 [.pointer (some ⟨b0_, 0, none⟩), .int .i64 a1_n].toArray w (Ret fun u w2 => u = .int .i64 r.1 ∧ Box w2 b0_ [v1, .int .i64 r.2.i_, .int .u64 r.2.h_] 99 ∧ But (pB b0_) w w2) := by
  refine calls_of Try.func40 rfl Try.ntmps40 ?_
  have he0 : But (pB b0_) w w := But.refl _ w
  have := Box.lt hb5
  unfold F_laws_dice_below at hF
  refine WC.seq ?_
  refine WC.region ?_
  refine TL.yld rfl rfl (yld_assign rfl rfl) ?_
  refine TL.done ?_
  refine NX.seq ?_
  refine WC.seq ?_
  refine WC.region ?_
  refine TL.yld rfl rfl (yld_move rfl rfl) ?_
  refine TL.yld rfl rfl (yld_move rfl rfl) ?_
  refine TL.yld rfl rfl (yld_nilCheck rfl rfl) ?_
  refine TL.yld rfl rfl (yld_fieldAddr rfl fo_99_2 rfl) ?_
  refine TL.yld rfl rfl (yld_load1 2 rfl ag_60 rfl (Box.cells hb5) rfl rfl) ?_
  refine TL.yld rfl rfl (yld_mul rfl rfl rfl) ?_
  refine TL.yld rfl rfl (yld_add rfl rfl rfl) ?_
  refine TL.yld rfl rfl (yld_nilCheck rfl rfl) ?_
  refine TL.yld rfl rfl (yld_fieldAddr rfl fo_99_2 rfl) ?_
  refine TL.eff rfl rfl (eff_store rfl rfl rfl hb5 cn_60 rfl rfl) ?_
  rintro _ w8 ⟨hu9, hb10⟩
  have he11 : But (pB b0_) w w8 := But.upd he0 hu9 (Or.inl rfl)
  have ha2 := slRep.upd ha2 hu9 (by omega)
  have hz12 := (hu9).size
  have hb5 : Box w8 b0_ [v1, .int .i64 a0_d.i_, .int .u64 (IntKind.wrap IntKind.u64 ((IntKind.wrap IntKind.u64 (a0_d.h_ * 6364136223846793005)) + 1442695040888963407))] 99 := hb10
  refine TL.done ?_
  refine NX.seq ?_
  refine WC.seq ?_
  refine WC.region ?_
  refine TL.yld rfl rfl (yld_move rfl rfl) ?_
  refine TL.yld rfl rfl (yld_nilCheck rfl rfl) ?_
  refine TL.yld rfl rfl (yld_fieldAddr rfl fo_99_2 rfl) ?_
  refine TL.yld rfl rfl (yld_load1 2 rfl ag_60 rfl (Box.cells hb5) rfl rfl) ?_
  refine TL.yld rfl rfl (yld_shr rfl rfl rfl (by decide)) ?_
  refine TL.yld rfl rfl (yld_and rfl rfl rfl) ?_
  refine TL.yld rfl rfl (yld_conv rfl Try.underlying60 Try.underlying2 rfl) ?_
  refine TL.yld rfl rfl (yld_assign rfl rfl) ?_
  refine TL.done ?_
  refine NX.seq ?_
  refine WC.seq ?_
  refine WC.seq ?_
  refine WC.quiet Try.hm (by kernel_rfl) ?_
  refine QL.yld rfl rfl (Yld.qui (yld_move rfl rfl)) ?_
  refine QL.yld rfl rfl (Yld.qui (yld_nilCheck rfl rfl)) ?_
  refine QL.yld rfl rfl (Yld.qui (yld_fieldAddr rfl fo_99_1 rfl)) ?_
  refine QL.yld rfl rfl (Yld.qui (yld_load1 1 rfl ag_3 rfl (Box.cells hb5) rfl rfl)) ?_
  refine QL.yld rfl rfl (Yld.qui (yld_move rfl rfl)) ?_
  refine QL.yld rfl rfl (Yld.qui (yld_nilCheck rfl rfl)) ?_
  refine QL.yld rfl rfl (Yld.qui (yld_fieldAddr rfl fo_99_0 rfl)) ?_
  refine QL.yld rfl rfl (Yld.qui (yld_load1 0 rfl ag_42 rfl (Box.cells hb5) rfl rfl)) ?_
  refine QL.yld rfl rfl (Yld.qui (ye_len (c := (cInt .u8)) rfl Try.underlying42 rfl ha2)) ?_
  refine QL.yld rfl rfl (Yld.qui (yld_lss rfl rfl rfl)) ?_
  refine QL.done fun w13 hx14 => ?_
  have he15 : But (pB b0_) w w13 := But.ext he11 hx14
  have hb5 := Box.ext hb5 hx14
  have ha2 := slRep.old ha2 hx14 (by omega)
  have hz16 := (hx14).size
  refine NX.seq ?_
  refine WC.cond rfl ?_ ?_
  · intro hc17
    replace hF := bif_t hc17 hF
    refine WC.seq ?_
    refine WC.quiet Try.hm (by kernel_rfl) ?_
    refine QL.yld rfl rfl (Yld.qui (yld_move rfl rfl)) ?_
    refine QL.yld rfl rfl (Yld.qui (yld_move rfl rfl)) ?_
    refine QL.yld rfl rfl (Yld.qui (yld_nilCheck rfl rfl)) ?_
    refine QL.yld rfl rfl (Yld.qui (yld_fieldAddr rfl fo_99_0 rfl)) ?_
    refine QL.yld rfl rfl (Yld.qui (yld_load1 0 rfl ag_42 rfl (Box.cells hb5) rfl rfl)) ?_
    refine QL.yld rfl rfl (Yld.qui (yld_move rfl rfl)) ?_
    refine QL.yld rfl rfl (Yld.qui (yld_nilCheck rfl rfl)) ?_
    refine QL.yld rfl rfl (Yld.qui (yld_fieldAddr rfl fo_99_1 rfl)) ?_
    refine QL.yld rfl rfl (Yld.qui (yld_load1 1 rfl ag_3 rfl (Box.cells hb5) rfl rfl)) ?_
    obtain ⟨x18, hy19, hF⟩ := bsome hF
    refine QL.ye rfl rfl (ye_index (c := (cInt .u8)) rfl Try.underlying42 cn_5 rfl rfl ha2 hy19) ?_
    rintro _ ⟨b20, o21, us22, rfl, hib25, hr23, hcl24⟩
    have hib25 : lo3 ≤ b20 ∧ b20 < hi4 := ⟨hib25.1, by have := hib25.2; omega⟩
    obtain rfl := hr23
    refine QL.yld rfl rfl (Yld.qui (yld_load1 0 rfl ag_5 rfl hcl24 rfl rfl)) ?_
    refine QL.yld rfl rfl (Yld.qui (yld_conv rfl Try.underlying5 Try.underlying2 rfl)) ?_
    refine QL.yld rfl rfl (Yld.qui (yld_add rfl rfl rfl)) ?_
    refine QL.yld rfl rfl (Yld.qui (yld_assign rfl rfl)) ?_
    refine QL.done fun w26 hx27 => ?_
    have he28 : But (pB b0_) w w26 := But.ext he15 hx27
    have hb5 := Box.ext hb5 hx27
    have ha2 := slRep.old ha2 hx27 (by omega)
    have hz29 := (hx27).size
    refine NX.seq ?_
    refine WC.region ?_
    refine TL.yld rfl rfl (yld_move rfl rfl) ?_
    refine TL.yld rfl rfl (yld_move rfl rfl) ?_
    refine TL.yld rfl rfl (yld_nilCheck rfl rfl) ?_
    refine TL.yld rfl rfl (yld_fieldAddr rfl fo_99_1 rfl) ?_
    refine TL.yld rfl rfl (yld_load1 1 rfl ag_3 rfl (Box.cells hb5) rfl rfl) ?_
    refine TL.yld rfl rfl (yld_add rfl rfl rfl) ?_
    refine TL.yld rfl rfl (yld_nilCheck rfl rfl) ?_
    refine TL.yld rfl rfl (yld_fieldAddr rfl fo_99_1 rfl) ?_
    refine TL.eff rfl rfl (eff_store rfl rfl rfl hb5 cn_3 rfl rfl) ?_
    rintro _ w30 ⟨hu31, hb32⟩
    have he33 : But (pB b0_) w w30 := But.upd he28 hu31 (Or.inl rfl)
    have ha2 := slRep.upd ha2 hu31 (by omega)
    have hz34 := (hu31).size
    have hb5 : Box w30 b0_ [v1, .int .i64 (IntKind.wrap IntKind.i64 (a0_d.i_ + 1)), .int .u64 (IntKind.wrap IntKind.u64 ((IntKind.wrap IntKind.u64 (a0_d.h_ * 6364136223846793005)) + 1442695040888963407))] 99 := hb32
    refine TL.done ?_
    refine NX.seq ?_
    refine WC.seq ?_
    refine WC.region ?_
    refine TL.yld rfl rfl (yld_move rfl rfl) ?_
    refine TL.yld rfl rfl (yld_move rfl rfl) ?_
    obtain ⟨hn35, hF⟩ := nzero hF
    refine TL.yld rfl rfl (yld_rem rfl rfl rfl hn35) ?_
    refine TL.yld rfl rfl (yld_assign rfl rfl) ?_
    refine TL.done ?_
    refine NX.seq ?_
    refine WC.ret' ?_
    obtain rfl := Option.some.inj hF
    exact NX.end (rs := [.tmp 4]) (vs := [.int .i64 (Int.tmod (IntKind.wrap IntKind.i64 ((IntKind.wrap IntKind.i64 (andK .u64 (shrK .u64 (IntKind.wrap IntKind.u64 ((IntKind.wrap IntKind.u64 (a0_d.h_ * 6364136223846793005)) + 1442695040888963407)) 33) 16777215)) + (IntKind.wrap IntKind.i64 x18))) a1_n)]) rfl ⟨rfl, trivial⟩ ⟨_, rfl, rfl, hb5, he33⟩
  · intro hc36
    replace hF := bif_f hc36 hF
    refine WC.skip' ?_
    refine NX.seq ?_
    refine WC.seq ?_
    refine WC.region ?_
    refine TL.yld rfl rfl (yld_move rfl rfl) ?_
    refine TL.yld rfl rfl (yld_move rfl rfl) ?_
    obtain ⟨hn37, hF⟩ := nzero hF
    refine TL.yld rfl rfl (yld_rem rfl rfl rfl hn37) ?_
    refine TL.yld rfl rfl (yld_assign rfl rfl) ?_
    refine TL.done ?_
    refine NX.seq ?_
    refine WC.ret' ?_
    obtain rfl := Option.some.inj hF
    exact NX.end (rs := [.tmp 4]) (vs := [.int .i64 (Int.tmod (IntKind.wrap IntKind.i64 (andK .u64 (shrK .u64 (IntKind.wrap IntKind.u64 ((IntKind.wrap IntKind.u64 (a0_d.h_ * 6364136223846793005)) + 1442695040888963407)) 33) 16777215)) a1_n)]) rfl ⟨rfl, trivial⟩ ⟨_, rfl, rfl, hb5, he15⟩

-- loop.example/g00861/laws.FnDepartures
def F_laws_FnDepartures_L1 (r20 : S_LatchSystem) (r47 : (List Int) × Int) (r374 : (List Int) × Int) (k0 : Int → Option Bool) : Nat → Int → Option Bool
  | 0 => fun _ => none
  | m + 1 => fun i393 => (bif decide (i393 < (r47.1.length : Int)) then (Option.bind (getI r47.1 i393) fun x400 => (Option.bind (getI r20.Latches i393) fun x407 => (Option.bind (bif decide (x400 < x407.Open) then (some true) else (Option.bind (getI r374.1 i393) fun x414 => (Option.bind (getI r47.1 i393) fun x421 => (some (decide (x414 < x421)))))) fun c414 => (bif c414 then (some false) else (F_laws_FnDepartures_L1 r20 r47 r374 k0 m (IntKind.wrap IntKind.i64 (i393 + 1))))))) else (k0 i393))
theorem F_laws_FnDepartures_L1_z (r20 : S_LatchSystem) (r47 : (List Int) × Int) (r374 : (List Int) × Int) (k0 : Int → Option Bool) (i393 : Int) : F_laws_FnDepartures_L1 r20 r47 r374 k0 0 i393 = none := rfl
theorem F_laws_FnDepartures_L1_s (m : Nat) (r20 : S_LatchSystem) (r47 : (List Int) × Int) (r374 : (List Int) × Int) (k0 : Int → Option Bool) (i393 : Int) : F_laws_FnDepartures_L1 r20 r47 r374 k0 (m + 1) i393 = (bif decide (i393 < (r47.1.length : Int)) then (Option.bind (getI r47.1 i393) fun x400 => (Option.bind (getI r20.Latches i393) fun x407 => (Option.bind (bif decide (x400 < x407.Open) then (some true) else (Option.bind (getI r374.1 i393) fun x414 => (Option.bind (getI r47.1 i393) fun x421 => (some (decide (x414 < x421)))))) fun c414 => (bif c414 then (some false) else (F_laws_FnDepartures_L1 r20 r47 r374 k0 m (IntKind.wrap IntKind.i64 (i393 + 1))))))) else (k0 i393)) := rfl

def F_laws_FnDepartures (n : Nat) (a0_code : List Int) : Option Bool := (Option.bind (F_laws_big n a0_code) fun r3 => (bif r3 then (some true) else (Option.bind (F_laws_roll n a0_code 6108) fun r11 => (Option.bind (F_spec_DrawLatchDepartures n a0_code) fun r20 => (Option.bind (F_impl_LatchDepartures n r20) fun r47 => (Option.bind (F_spec_LatchDepartures n r20) fun r57 => (Option.bind (bif (r47.2 != r57.2) then (some true) else (Option.bind (F_laws_likeInts n r47.1 r57.1) fun r67 => (some (!r67)))) fun c67 => (bif c67 then (some false) else (bif (((r47.2 != 0)) || ((((r47.1.length : Int)) == 0))) then (some true) else (Option.bind (F_impl_IsDeparture n r20 r47.1) fun r89 => (bif (!r89) then (some false) else (Option.bind (appN (([] : List S_Latch)) r20.Latches 16) fun z110 => (Option.bind (F_laws_dice_below n ((S_dice.mk a0_code r11.i_ r11.h_)) ((r47.1.length : Int))) fun r297 => (Option.bind (getI z110 r297.1) fun x308 => (Option.bind (F_laws_dice_below n ((S_dice.mk a0_code r297.2.i_ r297.2.h_)) (IntKind.wrap IntKind.i64 ((IntKind.wrap IntKind.i64 (x308.Close - x308.Open)) + 1))) fun r327 => (Option.bind (getI z110 r297.1) fun x338 => (Option.bind (F_impl_LatchDepartures n ((S_LatchSystem.mk ((z110.set (r297.1).toNat ((S_Latch.mk (IntKind.wrap IntKind.i64 (x308.Open + r327.1)) x308.Close)))) r20.Links))) fun r374 => (bif (((r374.2 != 0)) || ((((r374.1.length : Int)) != ((r47.1.length : Int))))) then (some false) else (F_laws_FnDepartures_L1 r20 r47 r374 (fun i393 => (some true)) n 0)))))))))))))))))))
set_option maxHeartbeats 40000000 in
theorem W_laws_FnDepartures {n : Nat} {a0_code : List Int} {r : Bool} {w : World} {v1 : Value} (hF : F_laws_FnDepartures n a0_code = some r) (ha2 : slRep (cInt .u8) w (Iv 0 w.heap.size) a0_code v1) :
    Calls Try.prog 8 [v1].toArray w (Ret fun u w2 => u = .bool r ∧ Ext w w2) := by
  refine calls_of Try.func8 rfl Try.ntmps8 ?_
  have he0 : Ext w w := Ext.refl w
  unfold F_laws_FnDepartures at hF
  refine WC.seq ?_
  refine WC.region ?_
  refine TL.yld rfl rfl (yld_assign rfl rfl) ?_
  refine TL.done ?_
  refine NX.seq ?_
  refine WC.seq ?_
  refine WC.seq ?_
  refine WC.region ?_
  refine TL.yld rfl rfl (yld_move rfl rfl) ?_
  obtain ⟨r3, hr4, hF⟩ := bsome hF
  refine TL.eff rfl rfl (eff_call rfl gf_23 rfl (W_laws_big hr4 ((slRep.old ha2 he0 (Nat.le_refl _)).wide (Nat.le_refl _) (he0).size))) ?_
  rintro _ w5 ⟨rfl, hx6⟩
  have he7 : Ext w w5 := Ext.trans he0 hx6
  have hz8 := (hx6).size
  refine TL.done ?_
  refine NX.seq ?_
  refine WC.cond rfl ?_ ?_
  · intro hc9
    replace hF := bif_t hc9 hF
    refine WC.seq ?_
    refine WC.region ?_
    refine TL.yld rfl rfl (yld_assign rfl rfl) ?_
    refine TL.done ?_
    refine NX.seq ?_
    refine WC.ret' ?_
    refine NX.then_r ?_
    obtain rfl := Option.some.inj hF
    exact NX.end (rs := [.tmp 2]) (vs := [.bool true]) rfl ⟨rfl, trivial⟩ ⟨_, rfl, rfl, he7⟩
  · intro hc10
    replace hF := bif_f hc10 hF
    refine WC.skip' ?_
    refine NX.seq ?_
    refine WC.seq ?_
    refine WC.region ?_
    refine TL.yld rfl rfl (yld_move rfl rfl) ?_
    obtain ⟨r11, hr12, hF⟩ := bsome hF
    refine TL.eff rfl rfl (eff_call rfl gf_37 rfl (W_laws_roll hr12 ((slRep.old ha2 he7 (Nat.le_refl _)).wide (Nat.le_refl _) (he7).size))) ?_
    rintro _ w13 ⟨b15, rfl, hb16, hlo17, hx14⟩
    have he18 : Ext w w13 := Ext.trans he7 hx14
    have hz19 := (hx14).size
    have := hlo17
    have := Box.lt hb16
    refine TL.yld rfl rfl (yld_assign rfl rfl) ?_
    refine TL.done ?_
    refine NX.seq ?_
    refine WC.seq ?_
    refine WC.region ?_
    refine TL.yld rfl rfl (yld_move rfl rfl) ?_
    obtain ⟨r20, hr21, hF⟩ := bsome hF
    refine TL.eff rfl rfl (eff_call rfl gf_38 rfl (W_spec_DrawLatchDepartures hr21 ((slRep.old ha2 he18 (Nat.le_refl _)).wide (Nat.le_refl _) (he18).size))) ?_
    rintro _ w22 ⟨v24, v26, rfl, hs25, hs27, hp32, hx23⟩
    have he33 : Ext w w22 := Ext.trans he18 hx23
    have hb16 := Box.ext hb16 hx23
    have hz34 := (hx23).size
    have hbd29 := ownR.blk hs25
    have hbd31 := ownR.blk hs27
    refine TL.eff rfl rfl (eff_alloc rfl zn_38) ?_
    rintro _ w36 ⟨b35, rfl, hn37⟩
    obtain ⟨hn37e, hn37s, hn37x, hb38⟩ := hn37
    have hb38 : Box w36 b35 [.slice none 0 0, .slice none 0 0] 38 := hb38
    have he40 : Ext w w36 := Ext.trans he33 hn37x
    have hb16 := Box.ext hb16 hn37x
    have hs25 := ownR.ext hs25 hn37x
    have hs27 := ownR.ext hs27 hn37x
    have hz41 := (hn37x).size
    have hlo39 : w.heap.size ≤ b35 := by rw [hn37e]; exact (he33).size
    refine TL.eff rfl rfl (eff_store rfl rfl rfl hb38 cn_38 (allc_cons (slRep.one (ownR.slf hs25 (Nat.le_refl _) (Nat.le_refl _))) (allc_cons (slRep.one (ownR.slf hs27 (Nat.le_refl _) (Nat.le_refl _))) allc_nil)) rfl) ?_
    rintro _ w42 ⟨hu43, hb44⟩
    have he45 : Ext w w42 := Below.trans he40 (Upd.below hu43 (by omega))
    have hb16 := Box.upd hb16 hu43 (by omega)
    have hs25 := ownR.upd hs25 hu43 (fun g hg => by have := hbd29 g hg; omega)
    have hs27 := ownR.upd hs27 hu43 (fun g hg => by have := hbd31 g hg; omega)
    have hz46 := (hu43).size
    have hb38 : Box w42 b35 [v24, v26] 38 := hb44
    refine TL.done ?_
    refine NX.seq ?_
    refine WC.seq ?_
    refine WC.region ?_
    refine TL.yld rfl rfl (yld_loadN (us := [v24, v26]) rfl ag_38 rfl (Box.cells hb38) cn_38) ?_
    obtain ⟨r47, hr48, hF⟩ := bsome hF
    refine TL.eff rfl rfl (eff_call rfl gf_30 rfl (W_impl_LatchDepartures hr48 (ownR.slf hs25 (Nat.zero_le _) (Nat.le_refl _)) (ownR.slf hs27 (Nat.zero_le _) (Nat.le_refl _)))) ?_
    rintro _ w49 ⟨v51, rfl, hs52, hx50⟩
    have he55 : Ext w w49 := Ext.trans he45 hx50
    have hb16 := Box.ext hb16 hx50
    have hb38 := Box.ext hb38 hx50
    have hs25 := ownR.ext hs25 hx50
    have hs27 := ownR.ext hs27 hx50
    have hz56 := (hx50).size
    have hbd54 := ownR.blk hs52
    refine TL.yld rfl rfl (yld_move rfl rfl) ?_
    refine TL.yld rfl rfl (yld_extract rfl rfl rfl) ?_
    refine TL.yld rfl rfl (yld_extract rfl rfl rfl) ?_
    refine TL.yld rfl rfl (yld_assign rfl rfl) ?_
    refine TL.yld rfl rfl (yld_assign rfl rfl) ?_
    refine TL.done ?_
    refine NX.seq ?_
    refine WC.seq ?_
    refine WC.region ?_
    refine TL.yld rfl rfl (yld_loadN (us := [v24, v26]) rfl ag_38 rfl (Box.cells hb38) cn_38) ?_
    obtain ⟨r57, hr58, hF⟩ := bsome hF
    refine TL.eff rfl rfl (eff_call rfl gf_39 rfl (W_spec_LatchDepartures hr58 (ownR.slf hs25 (Nat.zero_le _) (Nat.le_refl _)) (ownR.slf hs27 (Nat.zero_le _) (Nat.le_refl _)))) ?_
    rintro _ w59 ⟨v61, rfl, hs62, hx60⟩
    have he65 : Ext w w59 := Ext.trans he55 hx60
    have hb16 := Box.ext hb16 hx60
    have hb38 := Box.ext hb38 hx60
    have hs25 := ownR.ext hs25 hx60
    have hs27 := ownR.ext hs27 hx60
    have hs52 := ownR.ext hs52 hx60
    have hz66 := (hx60).size
    have hbd64 := ownR.blk hs62
    refine TL.yld rfl rfl (yld_move rfl rfl) ?_
    refine TL.yld rfl rfl (yld_extract rfl rfl rfl) ?_
    refine TL.yld rfl rfl (yld_extract rfl rfl rfl) ?_
    refine TL.yld rfl rfl (yld_assign rfl rfl) ?_
    refine TL.yld rfl rfl (yld_assign rfl rfl) ?_
    refine TL.done ?_
    refine NX.seq ?_
    refine WC.seq ?_
    refine WC.seq ?_
    refine WC.region ?_
    refine TL.yld rfl rfl (yld_move rfl rfl) ?_
    refine TL.yld rfl rfl (yld_move rfl rfl) ?_
    refine TL.yld rfl rfl (yld_neq rfl rfl rfl) ?_
    refine TL.yld rfl rfl (yld_move rfl rfl) ?_
    obtain ⟨c67, hb68, hF⟩ := bsome hF
    refine TL.cut 5 [(3, .pointer (some ⟨b15, 0, none⟩)), (4, .pointer (some ⟨b35, 0, none⟩)), (5, v51), (6, .int .i64 r47.2), (39, .bool c67)] (fun w' => Ext w59 w') ?_ ?_
    · rcases Bool.eq_false_or_eq_true ((r47.2 != r57.2)) with hg69 | hg69
      ·
        rw [hg69] at hb68; simp only [cond_true, cond_false] at hb68
        refine TL.gnu (j := 3) (t := 34) rfl rfl rfl hg69 rfl ?_
        refine TL.gnu (j := 3) (t := 34) rfl rfl rfl hg69 rfl ?_
        refine TL.gnu (j := 3) (t := 34) rfl rfl rfl hg69 rfl ?_
        refine TL.gnu (j := 3) (t := 34) rfl rfl rfl hg69 rfl ?_
        obtain rfl := Option.some.inj hb68
        refine TL.yld rfl rfl (yld_pick_t rfl rfl hg69 rfl) ?_
        exact TL.nil fun a h => ⟨h.weaken ⟨rfl, rfl, rfl, rfl, rfl, trivial⟩, Ext.refl _⟩
      ·
        rw [hg69] at hb68; simp only [cond_true, cond_false] at hb68
        replace hF := hb68
        refine TL.gy (j := 3) (t := 34) rfl rfl rfl hg69 rfl (yld_move rfl rfl) ?_
        refine TL.gy (j := 3) (t := 34) rfl rfl rfl hg69 rfl (yld_move rfl rfl) ?_
        obtain ⟨r70, hr71, hF⟩ := bsome hF
        refine TL.ge (j := 3) (t := 34) rfl rfl rfl hg69 rfl (eff_call rfl gf_27 rfl (W_laws_likeInts hr71 (ownR.slf hs52 (Nat.zero_le _) (Nat.le_refl _)) (ownR.slf hs62 (Nat.zero_le _) (Nat.le_refl _)))) ?_
        rintro _ w72 ⟨rfl, hx73⟩
        have he74 : Ext w w72 := Ext.trans he65 hx73
        have hb16 := Box.ext hb16 hx73
        have hb38 := Box.ext hb38 hx73
        have hs25 := ownR.ext hs25 hx73
        have hs27 := ownR.ext hs27 hx73
        have hs52 := ownR.ext hs52 hx73
        have hs62 := ownR.ext hs62 hx73
        have hz75 := (hx73).size
        refine TL.gy (j := 3) (t := 34) rfl rfl rfl hg69 rfl (yld_not rfl rfl) ?_
        obtain rfl := Option.some.inj hF
        refine TL.yld rfl rfl (yld_pick_f rfl rfl hg69 rfl) ?_
        exact TL.nil fun a h => ⟨h.weaken ⟨rfl, rfl, rfl, rfl, rfl, trivial⟩, hx73⟩
    intro w76 hx77
    have he78 : Ext w w76 := Ext.trans he65 hx77
    have hb16 := Box.ext hb16 hx77
    have hb38 := Box.ext hb38 hx77
    have hs25 := ownR.ext hs25 hx77
    have hs27 := ownR.ext hs27 hx77
    have hs52 := ownR.ext hs52 hx77
    have hs62 := ownR.ext hs62 hx77
    have hz79 := (hx77).size
    refine TL.done ?_
    refine NX.seq ?_
    refine WC.cond rfl ?_ ?_
    · intro hc80
      replace hF := bif_t hc80 hF
      refine WC.seq ?_
      refine WC.region ?_
      refine TL.yld rfl rfl (yld_assign rfl rfl) ?_
      refine TL.done ?_
      refine NX.seq ?_
      refine WC.ret' ?_
      refine NX.then_r ?_
      obtain rfl := Option.some.inj hF
      exact NX.end (rs := [.tmp 2]) (vs := [.bool false]) rfl ⟨rfl, trivial⟩ ⟨_, rfl, rfl, he78⟩
    · intro hc81
      replace hF := bif_f hc81 hF
      refine WC.skip' ?_
      refine NX.seq ?_
      refine WC.seq ?_
      refine WC.seq ?_
      refine WC.region ?_
      refine TL.yld rfl rfl (yld_move rfl rfl) ?_
      refine TL.yld rfl rfl (yld_neq rfl rfl rfl) ?_
      refine TL.yld rfl rfl (yld_move rfl rfl) ?_
      refine TL.cut 4 [(3, .pointer (some ⟨b15, 0, none⟩)), (4, .pointer (some ⟨b35, 0, none⟩)), (5, v51), (46, .bool ((((r47.2 != 0)) || ((((r47.1.length : Int)) == 0)))))] (fun w' => Ext w76 w') ?_ ?_
      · rcases Bool.eq_false_or_eq_true ((r47.2 != 0)) with hg82 | hg82
        ·
          refine TL.gnu (j := 2) (t := 42) rfl rfl rfl hg82 rfl ?_
          refine TL.gnu (j := 2) (t := 42) rfl rfl rfl hg82 rfl ?_
          refine TL.gnu (j := 2) (t := 42) rfl rfl rfl hg82 rfl ?_
          refine TL.yld rfl rfl (yld_or_t (b2 := (((r47.1.length : Int)) == 0)) rfl rfl hg82 rfl) ?_
          exact TL.nil fun a h => ⟨h.weaken ⟨rfl, rfl, rfl, rfl, trivial⟩, Ext.refl _⟩
        ·
          refine TL.gy (j := 2) (t := 42) rfl rfl rfl hg82 rfl (yld_move rfl rfl) ?_
          refine TL.gy (j := 2) (t := 42) rfl rfl rfl hg82 rfl (yld_len_own (c := (cInt .i64)) rfl Try.underlying45 rfl hs52) ?_
          refine TL.gy (j := 2) (t := 42) rfl rfl rfl hg82 rfl (yld_eql rfl rfl rfl) ?_
          refine TL.yld rfl rfl (yld_or_f rfl rfl hg82 rfl) ?_
          exact TL.nil fun a h => ⟨h.weaken ⟨rfl, rfl, rfl, rfl, trivial⟩, Ext.refl _⟩
      intro w83 hx84
      have he85 : Ext w w83 := Ext.trans he78 hx84
      have hb16 := Box.ext hb16 hx84
      have hb38 := Box.ext hb38 hx84
      have hs25 := ownR.ext hs25 hx84
      have hs27 := ownR.ext hs27 hx84
      have hs52 := ownR.ext hs52 hx84
      have hs62 := ownR.ext hs62 hx84
      have hz86 := (hx84).size
      refine TL.done ?_
      refine NX.seq ?_
      refine WC.cond rfl ?_ ?_
      · intro hc87
        replace hF := bif_t hc87 hF
        refine WC.seq ?_
        refine WC.region ?_
        refine TL.yld rfl rfl (yld_assign rfl rfl) ?_
        refine TL.done ?_
        refine NX.seq ?_
        refine WC.ret' ?_
        refine NX.then_r ?_
        obtain rfl := Option.some.inj hF
        exact NX.end (rs := [.tmp 2]) (vs := [.bool true]) rfl ⟨rfl, trivial⟩ ⟨_, rfl, rfl, he85⟩
      · intro hc88
        replace hF := bif_f hc88 hF
        refine WC.skip' ?_
        refine NX.seq ?_
        refine WC.seq ?_
        refine WC.seq ?_
        refine WC.region ?_
        refine TL.yld rfl rfl (yld_loadN (us := [v24, v26]) rfl ag_38 rfl (Box.cells hb38) cn_38) ?_
        refine TL.yld rfl rfl (yld_move rfl rfl) ?_
        obtain ⟨r89, hr90, hF⟩ := bsome hF
        refine TL.eff rfl rfl (eff_call rfl gf_35 rfl (W_impl_IsDeparture hr90 (ownR.slf hs25 (Nat.zero_le _) (Nat.le_refl _)) (ownR.slf hs27 (Nat.zero_le _) (Nat.le_refl _)) (ownR.slf hs52 (Nat.zero_le _) (Nat.le_refl _)))) ?_
        rintro _ w91 ⟨rfl, hx92⟩
        have he93 : Ext w w91 := Ext.trans he85 hx92
        have hb16 := Box.ext hb16 hx92
        have hb38 := Box.ext hb38 hx92
        have hs25 := ownR.ext hs25 hx92
        have hs27 := ownR.ext hs27 hx92
        have hs52 := ownR.ext hs52 hx92
        have hs62 := ownR.ext hs62 hx92
        have hz94 := (hx92).size
        refine TL.yld rfl rfl (yld_not rfl rfl) ?_
        refine TL.done ?_
        refine NX.seq ?_
        refine WC.cond rfl ?_ ?_
        · intro hc95
          replace hF := bif_t hc95 hF
          refine WC.seq ?_
          refine WC.region ?_
          refine TL.yld rfl rfl (yld_assign rfl rfl) ?_
          refine TL.done ?_
          refine NX.seq ?_
          refine WC.ret' ?_
          refine NX.then_r ?_
          obtain rfl := Option.some.inj hF
          exact NX.end (rs := [.tmp 2]) (vs := [.bool false]) rfl ⟨rfl, trivial⟩ ⟨_, rfl, rfl, he93⟩
        · intro hc96
          replace hF := bif_f hc96 hF
          refine WC.skip' ?_
          refine NX.seq ?_
          refine WC.seq ?_
          obtain ⟨z110, ha111, hF⟩ := bsome hF
          refine WC.join (fun a wl => ∃ (b149 : Nat) (v151 : Value), Kn 127 [(3, .pointer (some ⟨b15, 0, none⟩)), (4, .pointer (some ⟨b35, 0, none⟩)), (5, v51), (9, .pointer (some ⟨b149, 0, none⟩))] a ∧ Ext w wl ∧ w91.heap.size ≤ wl.heap.size ∧ Box wl b15 [v1, .int .i64 r11.i_, .int .u64 r11.h_] 99 ∧ Box wl b35 [v24, v26] 38 ∧ ownR C_Latch wl (w13.heap.size) (Iv 0 0) 50 r20.Latches v24 ∧ ownR C_LatchLink wl (w13.heap.size) (Iv 0 0) 77 r20.Links v26 ∧ ownR (cInt .i64) wl (w42.heap.size) (Iv 0 0) 2 r47.1 v51 ∧ Box wl b149 [v151, v26] 38 ∧ (w91.heap.size ≤ b149 ∧ b149 < wl.heap.size) ∧ ownR C_Latch wl (w91.heap.size) (Iv 0 0) 50 z110 v151 ∧ (∀ q, v151.ownBlock = some q → w91.heap.size ≤ q ∧ q < wl.heap.size) ∧ b149 ≠ b15 ∧ b149 ≠ b35 ∧ (∀ g, v24.ownBlock = some g → g ≠ b149) ∧ (∀ g, v26.ownBlock = some g → g ≠ b149) ∧ (∀ g, v51.ownBlock = some g → g ≠ b149) ∧ (∀ g, v151.ownBlock = some g → g ≠ b15) ∧ (∀ g, v151.ownBlock = some g → g ≠ b35) ∧ (∀ g q, v151.ownBlock = some g → v24.ownBlock = some q → g ≠ q) ∧ (∀ g q, v151.ownBlock = some g → v26.ownBlock = some q → g ≠ q) ∧ (∀ g q, v151.ownBlock = some g → v51.ownBlock = some q → g ≠ q) ∧ (∀ g, v151.ownBlock = some g → g ≠ b149)) ?_ ?_
          ·
            refine WC.held 8 Try.hm fun w167 hx168 => ?_
            have he169 : Ext w w167 := Ext.trans he93 hx168
            have hb16 := Box.ext hb16 hx168
            have hb38 := Box.ext hb38 hx168
            have hs25 := ownR.ext hs25 hx168
            have hs27 := ownR.ext hs27 hx168
            have hs52 := ownR.ext hs52 hx168
            have hs62 := ownR.ext hs62 hx168
            have hz170 := (hx168).size
            refine HL.yld 1 (by kernel_rfl) rfl (by kernel_rfl) rfl rfl (yld_fieldAddr rfl fo_38_0 rfl) ?_
            refine HL.yld 2 (by kernel_rfl) rfl (by kernel_rfl) rfl rfl (yld_load1 0 rfl ag_35 rfl (Box.cells hb38) rfl rfl) ?_
            refine HL.yld 4 (by kernel_rfl) rfl (by kernel_rfl) rfl rfl (yld_fieldAddr rfl fo_38_1 rfl) ?_
            refine HL.yld 5 (by kernel_rfl) rfl (by kernel_rfl) rfl rfl (yld_load1 1 rfl ag_36 rfl (Box.cells hb38) rfl rfl) ?_
            refine HL.many (js := [0, 7]) (by kernel_rfl) rfl (all_two ?_ ?_)
            ·
              refine HB.eff 0 rfl rfl (by kernel_rfl) rfl rfl (eff_buildSlice (c := C_Latch) (xs := ([] : List S_Latch)) (S := (Iv 0 0)) (uss := []) (out := []) rfl Try.underlying35 in_50 rfl rfl (fillL_all [] rfl rfl rfl) rfl rfl rfl rfl (one_rep (uss := []) (show reps _ _ _ _ _ from trivial) rfl) (fun k h => by have := h.2; omega) rfl) ?_
              rintro v171 w172 ⟨g173, hv174, hg175, hz176, hx177, hs178⟩
              have hbs179 : Ext w167 w172 := Ext.trans (Ext.refl w167) hx177
              have he180 : Ext w w172 := Ext.trans he169 hx177
              have hb16 := Box.ext hb16 hx177
              have hb38 := Box.ext hb38 hx177
              have hs25 := ownR.ext hs25 hx177
              have hs27 := ownR.ext hs27 hx177
              have hs52 := ownR.ext hs52 hx177
              have hs62 := ownR.ext hs62 hx177
              have hz181 := (hx177).size
              have hlo182 : w.heap.size ≤ g173 := by rw [hg175]; exact (he169).size
              have hbd183 := bd_of hv174
              clear hv174
              refine ⟨hbs179, ?_⟩
              refine HL.many (js := [3, 7]) (by kernel_rfl) rfl (all_two ?_ ?_)
              ·
                refine HB.eff 3 rfl rfl (by kernel_rfl) rfl rfl (eff_appendF (c := C_Latch) rfl Try.underlying35 in_50 rfl rfl rfl rfl rfl hs178 (by omega) (ownR.slf hs25 (Nat.le_refl _) (Nat.le_refl _)) ha111) ?_
                rintro v185 w186 ⟨hs187, hgr188⟩
                have hbs190 : Ext w167 w186 := Below.trans hbs179 (Grew.low hgr188 (fun g hg => by have := hbd183 g hg; omega) (hbs179).size)
                have he191 : Ext w w186 := Below.trans he180 (Grew.low hgr188 (fun g hg => by have := hbd183 g hg; omega) (he180).size)
                have hp192 : ∀ g, v185.ownBlock = some g → g ≠ b15 := Grew.sepP (p := fun g => g ≠ b15) hgr188 (fun g hg => by have := hbd183 g hg; omega) (fun g hg => by omega)
                have hb16 := Grew.box hgr188 hb16 (fun g hg => by have := hbd183 g hg; omega)
                have hp193 : ∀ g, v185.ownBlock = some g → g ≠ b35 := Grew.sepP (p := fun g => g ≠ b35) hgr188 (fun g hg => by have := hbd183 g hg; omega) (fun g hg => by omega)
                have hb38 := Grew.box hgr188 hb38 (fun g hg => by have := hbd183 g hg; omega)
                have hp194 : ∀ g q, v171.ownBlock = some g → v24.ownBlock = some q → g ≠ q := (fun g q hg hq => by have := hbd183 g hg; have := hbd29 q hq; omega)
                have hp195 : ∀ g q, v185.ownBlock = some g → v24.ownBlock = some q → g ≠ q := fun g q hg hq => Grew.sepP (p := fun g => ∀ q, v24.ownBlock = some q → g ≠ q) hgr188 (fun g hg q hq => (hp194) g q hg hq) (fun g hg q hq => by have := hbd29 q hq; omega) g hg q hq
                have hs25 := Grew.ownF hgr188 hs25 hp194
                have hp196 : ∀ g q, v171.ownBlock = some g → v26.ownBlock = some q → g ≠ q := (fun g q hg hq => by have := hbd183 g hg; have := hbd31 q hq; omega)
                have hp197 : ∀ g q, v185.ownBlock = some g → v26.ownBlock = some q → g ≠ q := fun g q hg hq => Grew.sepP (p := fun g => ∀ q, v26.ownBlock = some q → g ≠ q) hgr188 (fun g hg q hq => (hp196) g q hg hq) (fun g hg q hq => by have := hbd31 q hq; omega) g hg q hq
                have hs27 := Grew.ownF hgr188 hs27 hp196
                have hp198 : ∀ g q, v171.ownBlock = some g → v51.ownBlock = some q → g ≠ q := (fun g q hg hq => by have := hbd183 g hg; have := hbd54 q hq; omega)
                have hp199 : ∀ g q, v185.ownBlock = some g → v51.ownBlock = some q → g ≠ q := fun g q hg hq => Grew.sepP (p := fun g => ∀ q, v51.ownBlock = some q → g ≠ q) hgr188 (fun g hg q hq => (hp198) g q hg hq) (fun g hg q hq => by have := hbd54 q hq; omega) g hg q hq
                have hs52 := Grew.ownF hgr188 hs52 hp198
                have hp200 : ∀ g q, v171.ownBlock = some g → v61.ownBlock = some q → g ≠ q := (fun g q hg hq => by have := hbd183 g hg; have := hbd64 q hq; omega)
                have hp201 : ∀ g q, v185.ownBlock = some g → v61.ownBlock = some q → g ≠ q := fun g q hg hq => Grew.sepP (p := fun g => ∀ q, v61.ownBlock = some q → g ≠ q) hgr188 (fun g hg q hq => (hp200) g q hg hq) (fun g hg q hq => by have := hbd64 q hq; omega) g hg q hq
                have hs62 := Grew.ownF hgr188 hs62 hp200
                have hz202 := (hgr188).1.size
                have hbd203 : ∀ g, v185.ownBlock = some g → g173 ≤ g ∧ g < w186.heap.size := Grew.bd hgr188 hs187 (fun g hg => ⟨by have := hbd183 g hg; omega, (hbd183 g hg).2⟩) (by omega) (by omega)
                refine ⟨hbs190, ?_⟩
                refine HL.yld 6 (by kernel_rfl) rfl (by kernel_rfl) rfl rfl (yld_build (uss := [(0, [v185]), (1, [v26])]) (out := [v185, v26]) rfl rfl zn_38 pl_38 (pt_cons (slRep.cl (ownR.slf hs187 (Nat.le_refl _) (Nat.le_refl _))) (pt_cons (slRep.cl (ownR.slf hs27 (Nat.le_refl _) (Nat.le_refl _))) rfl)) rfl) ?_
                refine HL.eff 7 rfl rfl (by kernel_rfl) rfl rfl (eff_alloc rfl zn_38) ?_
                rintro _ w205 ⟨b204, rfl, hn206⟩
                obtain ⟨hn206e, hn206s, hn206x, hb207⟩ := hn206
                have hb207 : Box w205 b204 [.slice none 0 0, .slice none 0 0] 38 := hb207
                have hbs209 : Ext w167 w205 := Ext.trans hbs190 hn206x
                have he210 : Ext w w205 := Ext.trans he191 hn206x
                have hb16 := Box.ext hb16 hn206x
                have hb38 := Box.ext hb38 hn206x
                have hs25 := ownR.ext hs25 hn206x
                have hs27 := ownR.ext hs27 hn206x
                have hs52 := ownR.ext hs52 hn206x
                have hs62 := ownR.ext hs62 hn206x
                have hs187 := ownR.ext hs187 hn206x
                have hz211 := (hn206x).size
                have hlo208 : w.heap.size ≤ b204 := by rw [hn206e]; exact (he191).size
                refine ⟨hbs209, ?_⟩
                refine HL.tail rfl (by kernel_rfl) rfl ?_
                refine TL.eff rfl rfl (eff_store rfl rfl rfl hb207 cn_38 (allc_cons (slRep.one (ownR.slf hs187 (Nat.le_refl _) (Nat.le_refl _))) (allc_cons (slRep.one (ownR.slf hs27 (Nat.le_refl _) (Nat.le_refl _))) allc_nil)) rfl) ?_
                rintro _ w212 ⟨hu213, hb214⟩
                have he215 : Ext w w212 := Below.trans he210 (Upd.below hu213 (by omega))
                have hb16 := Box.upd hb16 hu213 (by omega)
                have hb38 := Box.upd hb38 hu213 (by omega)
                have hs25 := ownR.upd hs25 hu213 (fun g hg => by have := hbd29 g hg; omega)
                have hs27 := ownR.upd hs27 hu213 (fun g hg => by have := hbd31 g hg; omega)
                have hs52 := ownR.upd hs52 hu213 (fun g hg => by have := hbd54 g hg; omega)
                have hs62 := ownR.upd hs62 hu213 (fun g hg => by have := hbd64 g hg; omega)
                have hs187 := ownR.upd hs187 hu213 (fun g hg => by have := hbd203 g hg; omega)
                have hz216 := (hu213).size
                have hb207 : Box w212 b204 [v185, v26] 38 := hb214
                refine TL.noPan (l := []) ?_
                exact fun a hK => ⟨rfl, b204, v185, hK.weaken ⟨rfl, rfl, rfl, rfl, trivial⟩, he215, (by omega), hb16, hb38, hs25, hs27, hs52, hb207, ⟨by omega, Box.lt hb207⟩, (ownR.base hs187 (by omega)), (fun g hg => by have := hbd203 g hg; omega), (by omega), (by omega), (fun g hg => by have := hbd29 g hg; omega), (fun g hg => by have := hbd31 g hg; omega), (fun g hg => by have := hbd54 g hg; omega), hp192, hp193, hp195, hp197, hp199, (fun g hg => by have := hbd203 g hg; omega)⟩
              ·
                refine HB.eff 7 rfl rfl (by kernel_rfl) rfl rfl (eff_alloc rfl zn_38) ?_
                rintro _ w218 ⟨b217, rfl, hn219⟩
                obtain ⟨hn219e, hn219s, hn219x, hb220⟩ := hn219
                have hb220 : Box w218 b217 [.slice none 0 0, .slice none 0 0] 38 := hb220
                have hbs222 : Ext w167 w218 := Ext.trans hbs179 hn219x
                have he223 : Ext w w218 := Ext.trans he180 hn219x
                have hb16 := Box.ext hb16 hn219x
                have hb38 := Box.ext hb38 hn219x
                have hs25 := ownR.ext hs25 hn219x
                have hs27 := ownR.ext hs27 hn219x
                have hs52 := ownR.ext hs52 hn219x
                have hs62 := ownR.ext hs62 hn219x
                have hs178 := ownR.ext hs178 hn219x
                have hz224 := (hn219x).size
                have hlo221 : w.heap.size ≤ b217 := by rw [hn219e]; exact (he180).size
                refine ⟨hbs222, ?_⟩
                refine HL.eff 3 rfl rfl (by kernel_rfl) rfl rfl (eff_appendF (c := C_Latch) rfl Try.underlying35 in_50 rfl rfl rfl rfl rfl hs178 (by omega) (ownR.slf hs25 (Nat.le_refl _) (Nat.le_refl _)) ha111) ?_
                rintro v225 w226 ⟨hs227, hgr228⟩
                have hbs230 : Ext w167 w226 := Below.trans hbs222 (Grew.low hgr228 (fun g hg => by have := hbd183 g hg; omega) (hbs222).size)
                have he231 : Ext w w226 := Below.trans he223 (Grew.low hgr228 (fun g hg => by have := hbd183 g hg; omega) (he223).size)
                have hp232 : ∀ g, v225.ownBlock = some g → g ≠ b15 := Grew.sepP (p := fun g => g ≠ b15) hgr228 (fun g hg => by have := hbd183 g hg; omega) (fun g hg => by omega)
                have hb16 := Grew.box hgr228 hb16 (fun g hg => by have := hbd183 g hg; omega)
                have hp233 : ∀ g, v225.ownBlock = some g → g ≠ b35 := Grew.sepP (p := fun g => g ≠ b35) hgr228 (fun g hg => by have := hbd183 g hg; omega) (fun g hg => by omega)
                have hb38 := Grew.box hgr228 hb38 (fun g hg => by have := hbd183 g hg; omega)
                have hp234 : ∀ g, v225.ownBlock = some g → g ≠ b217 := Grew.sepP (p := fun g => g ≠ b217) hgr228 (fun g hg => by have := hbd183 g hg; omega) (fun g hg => by omega)
                have hb220 := Grew.box hgr228 hb220 (fun g hg => by have := hbd183 g hg; omega)
                have hp235 : ∀ g q, v171.ownBlock = some g → v24.ownBlock = some q → g ≠ q := (fun g q hg hq => by have := hbd183 g hg; have := hbd29 q hq; omega)
                have hp236 : ∀ g q, v225.ownBlock = some g → v24.ownBlock = some q → g ≠ q := fun g q hg hq => Grew.sepP (p := fun g => ∀ q, v24.ownBlock = some q → g ≠ q) hgr228 (fun g hg q hq => (hp235) g q hg hq) (fun g hg q hq => by have := hbd29 q hq; omega) g hg q hq
                have hs25 := Grew.ownF hgr228 hs25 hp235
                have hp237 : ∀ g q, v171.ownBlock = some g → v26.ownBlock = some q → g ≠ q := (fun g q hg hq => by have := hbd183 g hg; have := hbd31 q hq; omega)
                have hp238 : ∀ g q, v225.ownBlock = some g → v26.ownBlock = some q → g ≠ q := fun g q hg hq => Grew.sepP (p := fun g => ∀ q, v26.ownBlock = some q → g ≠ q) hgr228 (fun g hg q hq => (hp237) g q hg hq) (fun g hg q hq => by have := hbd31 q hq; omega) g hg q hq
                have hs27 := Grew.ownF hgr228 hs27 hp237
                have hp239 : ∀ g q, v171.ownBlock = some g → v51.ownBlock = some q → g ≠ q := (fun g q hg hq => by have := hbd183 g hg; have := hbd54 q hq; omega)
                have hp240 : ∀ g q, v225.ownBlock = some g → v51.ownBlock = some q → g ≠ q := fun g q hg hq => Grew.sepP (p := fun g => ∀ q, v51.ownBlock = some q → g ≠ q) hgr228 (fun g hg q hq => (hp239) g q hg hq) (fun g hg q hq => by have := hbd54 q hq; omega) g hg q hq
                have hs52 := Grew.ownF hgr228 hs52 hp239
                have hp241 : ∀ g q, v171.ownBlock = some g → v61.ownBlock = some q → g ≠ q := (fun g q hg hq => by have := hbd183 g hg; have := hbd64 q hq; omega)
                have hp242 : ∀ g q, v225.ownBlock = some g → v61.ownBlock = some q → g ≠ q := fun g q hg hq => Grew.sepP (p := fun g => ∀ q, v61.ownBlock = some q → g ≠ q) hgr228 (fun g hg q hq => (hp241) g q hg hq) (fun g hg q hq => by have := hbd64 q hq; omega) g hg q hq
                have hs62 := Grew.ownF hgr228 hs62 hp241
                have hz243 := (hgr228).1.size
                have hbd244 : ∀ g, v225.ownBlock = some g → g173 ≤ g ∧ g < w226.heap.size := Grew.bd hgr228 hs227 (fun g hg => ⟨by have := hbd183 g hg; omega, (hbd183 g hg).2⟩) (by omega) (by omega)
                refine ⟨hbs230, ?_⟩
                refine HL.yld 6 (by kernel_rfl) rfl (by kernel_rfl) rfl rfl (yld_build (uss := [(0, [v225]), (1, [v26])]) (out := [v225, v26]) rfl rfl zn_38 pl_38 (pt_cons (slRep.cl (ownR.slf hs227 (Nat.le_refl _) (Nat.le_refl _))) (pt_cons (slRep.cl (ownR.slf hs27 (Nat.le_refl _) (Nat.le_refl _))) rfl)) rfl) ?_
                refine HL.tail rfl (by kernel_rfl) rfl ?_
                refine TL.eff rfl rfl (eff_store rfl rfl rfl hb220 cn_38 (allc_cons (slRep.one (ownR.slf hs227 (Nat.le_refl _) (Nat.le_refl _))) (allc_cons (slRep.one (ownR.slf hs27 (Nat.le_refl _) (Nat.le_refl _))) allc_nil)) rfl) ?_
                rintro _ w245 ⟨hu246, hb247⟩
                have he248 : Ext w w245 := Below.trans he231 (Upd.below hu246 (by omega))
                have hb16 := Box.upd hb16 hu246 (by omega)
                have hb38 := Box.upd hb38 hu246 (by omega)
                have hs25 := ownR.upd hs25 hu246 (fun g hg => by have := hbd29 g hg; omega)
                have hs27 := ownR.upd hs27 hu246 (fun g hg => by have := hbd31 g hg; omega)
                have hs52 := ownR.upd hs52 hu246 (fun g hg => by have := hbd54 g hg; omega)
                have hs62 := ownR.upd hs62 hu246 (fun g hg => by have := hbd64 g hg; omega)
                have hs227 := ownR.upd hs227 hu246 hp234
                have hz249 := (hu246).size
                have hb220 : Box w245 b217 [v225, v26] 38 := hb247
                refine TL.noPan (l := []) ?_
                exact fun a hK => ⟨rfl, b217, v225, hK.weaken ⟨rfl, rfl, rfl, rfl, trivial⟩, he248, (by omega), hb16, hb38, hs25, hs27, hs52, hb220, ⟨by omega, Box.lt hb220⟩, (ownR.base hs227 (by omega)), (fun g hg => by have := hbd244 g hg; omega), (by omega), (by omega), (fun g hg => by have := hbd29 g hg; omega), (fun g hg => by have := hbd31 g hg; omega), (fun g hg => by have := hbd54 g hg; omega), hp232, hp233, hp236, hp238, hp240, hp234⟩
            ·
              refine HB.eff 7 rfl rfl (by kernel_rfl) rfl rfl (eff_alloc rfl zn_38) ?_
              rintro _ w251 ⟨b250, rfl, hn252⟩
              obtain ⟨hn252e, hn252s, hn252x, hb253⟩ := hn252
              have hb253 : Box w251 b250 [.slice none 0 0, .slice none 0 0] 38 := hb253
              have hbs255 : Ext w167 w251 := Ext.trans (Ext.refl w167) hn252x
              have he256 : Ext w w251 := Ext.trans he169 hn252x
              have hb16 := Box.ext hb16 hn252x
              have hb38 := Box.ext hb38 hn252x
              have hs25 := ownR.ext hs25 hn252x
              have hs27 := ownR.ext hs27 hn252x
              have hs52 := ownR.ext hs52 hn252x
              have hs62 := ownR.ext hs62 hn252x
              have hz257 := (hn252x).size
              have hlo254 : w.heap.size ≤ b250 := by rw [hn252e]; exact (he169).size
              refine ⟨hbs255, ?_⟩
              refine HL.eff 0 rfl rfl (by kernel_rfl) rfl rfl (eff_buildSlice (c := C_Latch) (xs := ([] : List S_Latch)) (S := (Iv 0 0)) (uss := []) (out := []) rfl Try.underlying35 in_50 rfl rfl (fillL_all [] rfl rfl rfl) rfl rfl rfl rfl (one_rep (uss := []) (show reps _ _ _ _ _ from trivial) rfl) (fun k h => by have := h.2; omega) rfl) ?_
              rintro v258 w259 ⟨g260, hv261, hg262, hz263, hx264, hs265⟩
              have hbs266 : Ext w167 w259 := Ext.trans hbs255 hx264
              have he267 : Ext w w259 := Ext.trans he256 hx264
              have hb16 := Box.ext hb16 hx264
              have hb38 := Box.ext hb38 hx264
              have hb253 := Box.ext hb253 hx264
              have hs25 := ownR.ext hs25 hx264
              have hs27 := ownR.ext hs27 hx264
              have hs52 := ownR.ext hs52 hx264
              have hs62 := ownR.ext hs62 hx264
              have hz268 := (hx264).size
              have hlo269 : w.heap.size ≤ g260 := by rw [hg262]; exact (he256).size
              have hbd270 := bd_of hv261
              clear hv261
              refine ⟨hbs266, ?_⟩
              refine HL.eff 3 rfl rfl (by kernel_rfl) rfl rfl (eff_appendF (c := C_Latch) rfl Try.underlying35 in_50 rfl rfl rfl rfl rfl hs265 (by omega) (ownR.slf hs25 (Nat.le_refl _) (Nat.le_refl _)) ha111) ?_
              rintro v272 w273 ⟨hs274, hgr275⟩
              have hbs277 : Ext w167 w273 := Below.trans hbs266 (Grew.low hgr275 (fun g hg => by have := hbd270 g hg; omega) (hbs266).size)
              have he278 : Ext w w273 := Below.trans he267 (Grew.low hgr275 (fun g hg => by have := hbd270 g hg; omega) (he267).size)
              have hp279 : ∀ g, v272.ownBlock = some g → g ≠ b15 := Grew.sepP (p := fun g => g ≠ b15) hgr275 (fun g hg => by have := hbd270 g hg; omega) (fun g hg => by omega)
              have hb16 := Grew.box hgr275 hb16 (fun g hg => by have := hbd270 g hg; omega)
              have hp280 : ∀ g, v272.ownBlock = some g → g ≠ b35 := Grew.sepP (p := fun g => g ≠ b35) hgr275 (fun g hg => by have := hbd270 g hg; omega) (fun g hg => by omega)
              have hb38 := Grew.box hgr275 hb38 (fun g hg => by have := hbd270 g hg; omega)
              have hp281 : ∀ g, v272.ownBlock = some g → g ≠ b250 := Grew.sepP (p := fun g => g ≠ b250) hgr275 (fun g hg => by have := hbd270 g hg; omega) (fun g hg => by omega)
              have hb253 := Grew.box hgr275 hb253 (fun g hg => by have := hbd270 g hg; omega)
              have hp282 : ∀ g q, v258.ownBlock = some g → v24.ownBlock = some q → g ≠ q := (fun g q hg hq => by have := hbd270 g hg; have := hbd29 q hq; omega)
              have hp283 : ∀ g q, v272.ownBlock = some g → v24.ownBlock = some q → g ≠ q := fun g q hg hq => Grew.sepP (p := fun g => ∀ q, v24.ownBlock = some q → g ≠ q) hgr275 (fun g hg q hq => (hp282) g q hg hq) (fun g hg q hq => by have := hbd29 q hq; omega) g hg q hq
              have hs25 := Grew.ownF hgr275 hs25 hp282
              have hp284 : ∀ g q, v258.ownBlock = some g → v26.ownBlock = some q → g ≠ q := (fun g q hg hq => by have := hbd270 g hg; have := hbd31 q hq; omega)
              have hp285 : ∀ g q, v272.ownBlock = some g → v26.ownBlock = some q → g ≠ q := fun g q hg hq => Grew.sepP (p := fun g => ∀ q, v26.ownBlock = some q → g ≠ q) hgr275 (fun g hg q hq => (hp284) g q hg hq) (fun g hg q hq => by have := hbd31 q hq; omega) g hg q hq
              have hs27 := Grew.ownF hgr275 hs27 hp284
              have hp286 : ∀ g q, v258.ownBlock = some g → v51.ownBlock = some q → g ≠ q := (fun g q hg hq => by have := hbd270 g hg; have := hbd54 q hq; omega)
              have hp287 : ∀ g q, v272.ownBlock = some g → v51.ownBlock = some q → g ≠ q := fun g q hg hq => Grew.sepP (p := fun g => ∀ q, v51.ownBlock = some q → g ≠ q) hgr275 (fun g hg q hq => (hp286) g q hg hq) (fun g hg q hq => by have := hbd54 q hq; omega) g hg q hq
              have hs52 := Grew.ownF hgr275 hs52 hp286
              have hp288 : ∀ g q, v258.ownBlock = some g → v61.ownBlock = some q → g ≠ q := (fun g q hg hq => by have := hbd270 g hg; have := hbd64 q hq; omega)
              have hp289 : ∀ g q, v272.ownBlock = some g → v61.ownBlock = some q → g ≠ q := fun g q hg hq => Grew.sepP (p := fun g => ∀ q, v61.ownBlock = some q → g ≠ q) hgr275 (fun g hg q hq => (hp288) g q hg hq) (fun g hg q hq => by have := hbd64 q hq; omega) g hg q hq
              have hs62 := Grew.ownF hgr275 hs62 hp288
              have hz290 := (hgr275).1.size
              have hbd291 : ∀ g, v272.ownBlock = some g → g260 ≤ g ∧ g < w273.heap.size := Grew.bd hgr275 hs274 (fun g hg => ⟨by have := hbd270 g hg; omega, (hbd270 g hg).2⟩) (by omega) (by omega)
              refine ⟨hbs277, ?_⟩
              refine HL.yld 6 (by kernel_rfl) rfl (by kernel_rfl) rfl rfl (yld_build (uss := [(0, [v272]), (1, [v26])]) (out := [v272, v26]) rfl rfl zn_38 pl_38 (pt_cons (slRep.cl (ownR.slf hs274 (Nat.le_refl _) (Nat.le_refl _))) (pt_cons (slRep.cl (ownR.slf hs27 (Nat.le_refl _) (Nat.le_refl _))) rfl)) rfl) ?_
              refine HL.tail rfl (by kernel_rfl) rfl ?_
              refine TL.eff rfl rfl (eff_store rfl rfl rfl hb253 cn_38 (allc_cons (slRep.one (ownR.slf hs274 (Nat.le_refl _) (Nat.le_refl _))) (allc_cons (slRep.one (ownR.slf hs27 (Nat.le_refl _) (Nat.le_refl _))) allc_nil)) rfl) ?_
              rintro _ w292 ⟨hu293, hb294⟩
              have he295 : Ext w w292 := Below.trans he278 (Upd.below hu293 (by omega))
              have hb16 := Box.upd hb16 hu293 (by omega)
              have hb38 := Box.upd hb38 hu293 (by omega)
              have hs25 := ownR.upd hs25 hu293 (fun g hg => by have := hbd29 g hg; omega)
              have hs27 := ownR.upd hs27 hu293 (fun g hg => by have := hbd31 g hg; omega)
              have hs52 := ownR.upd hs52 hu293 (fun g hg => by have := hbd54 g hg; omega)
              have hs62 := ownR.upd hs62 hu293 (fun g hg => by have := hbd64 g hg; omega)
              have hs274 := ownR.upd hs274 hu293 hp281
              have hz296 := (hu293).size
              have hb253 : Box w292 b250 [v272, v26] 38 := hb294
              refine TL.noPan (l := []) ?_
              exact fun a hK => ⟨rfl, b250, v272, hK.weaken ⟨rfl, rfl, rfl, rfl, trivial⟩, he295, (by omega), hb16, hb38, hs25, hs27, hs52, hb253, ⟨by omega, Box.lt hb253⟩, (ownR.base hs274 (by omega)), (fun g hg => by have := hbd291 g hg; omega), (by omega), (by omega), (fun g hg => by have := hbd29 g hg; omega), (fun g hg => by have := hbd31 g hg; omega), (fun g hg => by have := hbd54 g hg; omega), hp279, hp280, hp283, hp285, hp287, hp281⟩
          ·
            rintro a w142 ⟨b149, v151, hK, he143, hz154, hb144, hb145, hs146, hs147, hs148, hb150, hlo155, hs152, hbd153, hp156, hp157, hp158, hp159, hp160, hp161, hp162, hp163, hp164, hp165, hp166⟩
            revert hK; revert a; refine (?_ : NX _ _ _ _ _)
            refine NX.seq ?_
            refine WC.seq ?_
            refine WC.region ?_
            refine TL.yld rfl rfl (yld_move rfl rfl) ?_
            refine TL.yld rfl rfl (yld_move rfl rfl) ?_
            refine TL.yld rfl rfl (yld_len_own (c := (cInt .i64)) rfl Try.underlying45 rfl hs148) ?_
            obtain ⟨r297, hr298, hF⟩ := bsome hF
            refine TL.eff rfl rfl (eff_call rfl gf_40 rfl (W_laws_dice_below hr298 hb144 (slRep.old ha2 he143 (Nat.le_refl _)) (by omega) (by omega))) ?_
            rintro _ w299 ⟨rfl, hb301, hx300⟩
            have he302 : Ext w w299 := Below.trans he143 (But.below hx300 (all_pB (by omega)) (he143).size)
            have hb145 := Box.but hb145 hx300 (all_pB (by omega))
            have hb150 := Box.but hb150 hx300 (all_pB (by omega))
            have hp303 : ∀ g, v24.ownBlock = some g → g ≠ b15 := (fun g hg => by have := hbd29 g hg; omega)
            have hs146 := ownR.butF hs146 hx300 (all_pB (fun g hg e => hp303 g hg e.symm))
            have hp304 : ∀ g, v26.ownBlock = some g → g ≠ b15 := (fun g hg => by have := hbd31 g hg; omega)
            have hs147 := ownR.butF hs147 hx300 (all_pB (fun g hg e => hp304 g hg e.symm))
            have hp305 : ∀ g, v51.ownBlock = some g → g ≠ b15 := (fun g hg => by have := hbd54 g hg; omega)
            have hs148 := ownR.butF hs148 hx300 (all_pB (fun g hg e => hp305 g hg e.symm))
            have hp306 : ∀ g, v151.ownBlock = some g → g ≠ b15 := hp161
            have hs152 := ownR.butF hs152 hx300 (all_pB (fun g hg e => hp306 g hg e.symm))
            have hz307 := (hx300).size
            refine TL.yld rfl rfl (yld_assign rfl rfl) ?_
            refine TL.done ?_
            refine NX.seq ?_
            refine WC.seq ?_
            refine WC.region ?_
            refine TL.yld rfl rfl (yld_fieldAddr rfl fo_38_0 rfl) ?_
            refine TL.yld rfl rfl (yld_load1 0 rfl ag_35 rfl (Box.cells hb150) rfl rfl) ?_
            refine TL.yld rfl rfl (yld_move rfl rfl) ?_
            obtain ⟨x308, hy309, hF⟩ := bsome hF
            refine TL.ye rfl rfl (ye_index_own (c := C_Latch) rfl Try.underlying35 cn_50 rfl rfl hs152 hy309) ?_
            rintro _ ⟨g310, us312, rfl, hg311, hr313, hcl314⟩
            have hr313r := hr313
            obtain rfl := C_Latch_open hr313
            refine TL.yld rfl rfl (yld_loadN (us := [.int .i64 x308.Open, .int .i64 x308.Close]) rfl ag_50 rfl hcl314 cn_50) ?_
            refine TL.eff rfl rfl (eff_alloc rfl zn_50) ?_
            rintro _ w316 ⟨b315, rfl, hn317⟩
            obtain ⟨hn317e, hn317s, hn317x, hb318⟩ := hn317
            have hb318 : Box w316 b315 [.int .i64 0, .int .i64 0] 50 := hb318
            have he320 : Ext w w316 := Ext.trans he302 hn317x
            have hb301 := Box.ext hb301 hn317x
            have hb145 := Box.ext hb145 hn317x
            have hb150 := Box.ext hb150 hn317x
            have hs146 := ownR.ext hs146 hn317x
            have hs147 := ownR.ext hs147 hn317x
            have hs148 := ownR.ext hs148 hn317x
            have hs152 := ownR.ext hs152 hn317x
            have hz321 := (hn317x).size
            have hlo319 : w.heap.size ≤ b315 := by rw [hn317e]; exact (he302).size
            refine TL.eff rfl rfl (eff_store rfl rfl rfl hb318 cn_50 rfl rfl) ?_
            rintro _ w322 ⟨hu323, hb324⟩
            have he325 : Ext w w322 := Below.trans he320 (Upd.below hu323 (by omega))
            have hb301 := Box.upd hb301 hu323 (by omega)
            have hb145 := Box.upd hb145 hu323 (by omega)
            have hb150 := Box.upd hb150 hu323 (by omega)
            have hs146 := ownR.upd hs146 hu323 (fun g hg => by have := hbd29 g hg; omega)
            have hs147 := ownR.upd hs147 hu323 (fun g hg => by have := hbd31 g hg; omega)
            have hs148 := ownR.upd hs148 hu323 (fun g hg => by have := hbd54 g hg; omega)
            have hs152 := ownR.upd hs152 hu323 (fun g hg => by have := hbd153 g hg; omega)
            have hz326 := (hu323).size
            have hb318 : Box w322 b315 [.int .i64 x308.Open, .int .i64 x308.Close] 50 := hb324
            refine TL.done ?_
            refine NX.seq ?_
            refine WC.seq ?_
            obtain ⟨r327, hr328, hF⟩ := bsome hF
            obtain ⟨x338, hy339, hF⟩ := bsome hF
            refine WC.heldG (p := (pB b15)) 17 Try.hm fun w350 hx351 => ?_
            have he352 : Ext w w350 := Ext.trans he325 hx351
            have hb301 := Box.ext hb301 hx351
            have hb145 := Box.ext hb145 hx351
            have hb150 := Box.ext hb150 hx351
            have hb318 := Box.ext hb318 hx351
            have hs146 := ownR.ext hs146 hx351
            have hs147 := ownR.ext hs147 hx351
            have hs148 := ownR.ext hs148 hx351
            have hs152 := ownR.ext hs152 hx351
            have hz353 := (hx351).size
            refine HLG.yld 0 (by kernel_rfl) rfl (by kernel_rfl) rfl rfl (fun wx hbx => (yld_fieldAddr rfl fo_38_0 rfl)) ?_
            refine HLG.yld 1 (by kernel_rfl) rfl (by kernel_rfl) rfl rfl (fun wx hbx => (have hb150 := Box.but hb150 hbx (all_pB (by omega)); (yld_load1 0 rfl ag_35 rfl (Box.cells hb150) rfl rfl))) ?_
            refine HLG.yld 2 (by kernel_rfl) rfl (by kernel_rfl) rfl rfl (fun wx hbx => (yld_move rfl rfl)) ?_
            refine HLG.yld 3 (by kernel_rfl) rfl (by kernel_rfl) rfl rfl (fun wx hbx => (yld_fieldAddr rfl fo_50_0 rfl)) ?_
            refine HLG.yld 4 (by kernel_rfl) rfl (by kernel_rfl) rfl rfl (fun wx hbx => (have hb318 := Box.but hb318 hbx (all_pB (by omega)); (yld_load1 0 rfl ag_2 rfl (Box.cells hb318) rfl rfl))) ?_
            refine HLG.yld 5 (by kernel_rfl) rfl (by kernel_rfl) rfl rfl (fun wx hbx => (yld_move rfl rfl)) ?_
            refine HLG.yld 6 (by kernel_rfl) rfl (by kernel_rfl) rfl rfl (fun wx hbx => (yld_fieldAddr rfl fo_50_1 rfl)) ?_
            refine HLG.yld 7 (by kernel_rfl) rfl (by kernel_rfl) rfl rfl (fun wx hbx => (have hb318 := Box.but hb318 hbx (all_pB (by omega)); (yld_load1 1 rfl ag_2 rfl (Box.cells hb318) rfl rfl))) ?_
            refine HLG.yld 8 (by kernel_rfl) rfl (by kernel_rfl) rfl rfl (fun wx hbx => (yld_fieldAddr rfl fo_50_0 rfl)) ?_
            refine HLG.yld 9 (by kernel_rfl) rfl (by kernel_rfl) rfl rfl (fun wx hbx => (have hb318 := Box.but hb318 hbx (all_pB (by omega)); (yld_load1 0 rfl ag_2 rfl (Box.cells hb318) rfl rfl))) ?_
            refine HLG.yld 10 (by kernel_rfl) rfl (by kernel_rfl) rfl rfl (fun wx hbx => (yld_sub rfl rfl rfl)) ?_
            refine HLG.yld 11 (by kernel_rfl) rfl (by kernel_rfl) rfl rfl (fun wx hbx => (yld_add rfl rfl rfl)) ?_
            refine HLG.yld 14 (by kernel_rfl) rfl (by kernel_rfl) rfl rfl (fun wx hbx => (yld_fieldAddr rfl fo_50_1 rfl)) ?_
            refine HLG.yld 15 (by kernel_rfl) rfl (by kernel_rfl) rfl rfl (fun wx hbx => (have hb318 := Box.but hb318 hbx (all_pB (by omega)); (yld_load1 1 rfl ag_2 rfl (Box.cells hb318) rfl rfl))) ?_
            refine HLG.eff 12 rfl rfl (by kernel_rfl) rfl rfl (eff_call rfl gf_40 rfl (W_laws_dice_below hr328 hb301 (slRep.old ha2 he352 (Nat.le_refl _)) (by omega) (by omega))) ?_
            rintro _ w354 ⟨rfl, hb356, hx355⟩
            have he357 : Ext w w354 := Below.trans he352 (But.below hx355 (all_pB (by omega)) (he352).size)
            have hb145 := Box.but hb145 hx355 (all_pB (by omega))
            have hb150 := Box.but hb150 hx355 (all_pB (by omega))
            have hb318 := Box.but hb318 hx355 (all_pB (by omega))
            have hp358 : ∀ g, v24.ownBlock = some g → g ≠ b15 := (fun g hg => by have := hbd29 g hg; omega)
            have hs146 := ownR.butF hs146 hx355 (all_pB (fun g hg e => hp358 g hg e.symm))
            have hp359 : ∀ g, v26.ownBlock = some g → g ≠ b15 := (fun g hg => by have := hbd31 g hg; omega)
            have hs147 := ownR.butF hs147 hx355 (all_pB (fun g hg e => hp359 g hg e.symm))
            have hp360 : ∀ g, v51.ownBlock = some g → g ≠ b15 := (fun g hg => by have := hbd54 g hg; omega)
            have hs148 := ownR.butF hs148 hx355 (all_pB (fun g hg e => hp360 g hg e.symm))
            have hp361 : ∀ g, v151.ownBlock = some g → g ≠ b15 := hp161
            have hs152 := ownR.butF hs152 hx355 (all_pB (fun g hg e => hp361 g hg e.symm))
            have hz362 := (hx355).size
            have hbs363 : But (pB b15) w350 w354 := (But.but (But.refl _ w350) hx355 (all_pB (Or.inl rfl)))
            refine ⟨hbs363, ?_⟩
            refine HLG.yld 13 (by kernel_rfl) rfl (by kernel_rfl) rfl rfl (fun wx hbx => (yld_add rfl rfl rfl)) ?_
            refine HLG.yld 16 (by kernel_rfl) rfl (by kernel_rfl) rfl rfl (fun wx hbx => (yld_build (uss := [(0, [.int .i64 (IntKind.wrap IntKind.i64 (x308.Open + r327.1))]), (1, [.int .i64 x308.Close])]) (out := [.int .i64 (IntKind.wrap IntKind.i64 (x308.Open + r327.1)), .int .i64 x308.Close]) rfl rfl zn_50 pl_50 rfl rfl)) ?_
            refine HLG.tail rfl (by kernel_rfl) rfl ?_
            refine TL.ye rfl rfl (ye_index_own (c := C_Latch) rfl Try.underlying35 cn_50 rfl rfl hs152 hy339) ?_
            rintro _ ⟨g364, us366, rfl, hg365, hr367, hcl368⟩
            have hr367r := hr367
            obtain rfl := C_Latch_open hr367
            refine TL.eff rfl rfl (eff_store_own (c := C_Latch) (us' := [.int .i64 (IntKind.wrap IntKind.i64 (x308.Open + r327.1)), .int .i64 x308.Close]) (y' := (S_Latch.mk (IntKind.wrap IntKind.i64 (x308.Open + r327.1)) x308.Close)) 0 _ rfl rfl rfl hs152 hg365 hy339 rfl cn_50 rfl hr367r hcl368 rfl rfl C_Latch_mk (fun k h => absurd h.2 (Nat.not_lt_zero k))) ?_
            rintro _ w369 ⟨hu370, hs371⟩
            have he372 : Ext w w369 := Below.trans he357 (Upd.below hu370 (by have := hbd153 _ hg365; omega))
            have hb356 := Box.upd hb356 hu370 (by have := hp161 _ hg365; omega)
            have hb145 := Box.upd hb145 hu370 (by have := hp162 _ hg365; omega)
            have hb150 := Box.upd hb150 hu370 (by have := hp166 _ hg365; omega)
            have hb318 := Box.upd hb318 hu370 (by have := hbd153 _ hg365; omega)
            have hs146 := ownR.upd hs146 hu370 (fun q hq => by have := hp163 _ q hg365 hq; omega)
            have hs147 := ownR.upd hs147 hu370 (fun q hq => by have := hp164 _ q hg365 hq; omega)
            have hs148 := ownR.upd hs148 hu370 (fun q hq => by have := hp165 _ q hg365 hq; omega)
            have hz373 := (hu370).size
            refine TL.noPan (l := []) ?_
            refine NX.seq ?_
            refine WC.seq ?_
            refine WC.region ?_
            refine TL.yld rfl rfl (yld_loadN (us := [v151, v26]) rfl ag_38 rfl (Box.cells hb150) cn_38) ?_
            obtain ⟨r374, hr375, hF⟩ := bsome hF
            refine TL.eff rfl rfl (eff_call rfl gf_30 rfl (W_impl_LatchDepartures hr375 (ownR.slf hs371 (Nat.zero_le _) (Nat.le_refl _)) (ownR.slf hs147 (Nat.zero_le _) (Nat.le_refl _)))) ?_
            rintro _ w376 ⟨v378, rfl, hs379, hx377⟩
            have he382 : Ext w w376 := Ext.trans he372 hx377
            have hb356 := Box.ext hb356 hx377
            have hb145 := Box.ext hb145 hx377
            have hb150 := Box.ext hb150 hx377
            have hb318 := Box.ext hb318 hx377
            have hs146 := ownR.ext hs146 hx377
            have hs147 := ownR.ext hs147 hx377
            have hs148 := ownR.ext hs148 hx377
            have hs371 := ownR.ext hs371 hx377
            have hz383 := (hx377).size
            have hbd381 := ownR.blk hs379
            refine TL.yld rfl rfl (yld_move rfl rfl) ?_
            refine TL.yld rfl rfl (yld_extract rfl rfl rfl) ?_
            refine TL.yld rfl rfl (yld_extract rfl rfl rfl) ?_
            refine TL.yld rfl rfl (yld_assign rfl rfl) ?_
            refine TL.yld rfl rfl (yld_assign rfl rfl) ?_
            refine TL.done ?_
            refine NX.seq ?_
            refine WC.seq ?_
            refine WC.seq ?_
            refine WC.region ?_
            refine TL.yld rfl rfl (yld_move rfl rfl) ?_
            refine TL.yld rfl rfl (yld_neq rfl rfl rfl) ?_
            refine TL.yld rfl rfl (yld_move rfl rfl) ?_
            refine TL.cut 6 [(4, .pointer (some ⟨b35, 0, none⟩)), (5, v51), (12, v378), (98, .bool ((((r374.2 != 0)) || ((((r374.1.length : Int)) != ((r47.1.length : Int)))))))] (fun w' => Ext w376 w') ?_ ?_
            · rcases Bool.eq_false_or_eq_true ((r374.2 != 0)) with hg384 | hg384
              ·
                refine TL.gnu (j := 2) (t := 92) rfl rfl rfl hg384 rfl ?_
                refine TL.gnu (j := 2) (t := 92) rfl rfl rfl hg384 rfl ?_
                refine TL.gnu (j := 2) (t := 92) rfl rfl rfl hg384 rfl ?_
                refine TL.gnu (j := 2) (t := 92) rfl rfl rfl hg384 rfl ?_
                refine TL.gnu (j := 2) (t := 92) rfl rfl rfl hg384 rfl ?_
                refine TL.yld rfl rfl (yld_or_t (b2 := (((r374.1.length : Int)) != ((r47.1.length : Int)))) rfl rfl hg384 rfl) ?_
                exact TL.nil fun a h => ⟨h.weaken ⟨rfl, rfl, rfl, rfl, trivial⟩, Ext.refl _⟩
              ·
                refine TL.gy (j := 2) (t := 92) rfl rfl rfl hg384 rfl (yld_move rfl rfl) ?_
                refine TL.gy (j := 2) (t := 92) rfl rfl rfl hg384 rfl (yld_len_own (c := (cInt .i64)) rfl Try.underlying45 rfl hs379) ?_
                refine TL.gy (j := 2) (t := 92) rfl rfl rfl hg384 rfl (yld_move rfl rfl) ?_
                refine TL.gy (j := 2) (t := 92) rfl rfl rfl hg384 rfl (yld_len_own (c := (cInt .i64)) rfl Try.underlying45 rfl hs148) ?_
                refine TL.gy (j := 2) (t := 92) rfl rfl rfl hg384 rfl (yld_neq rfl rfl rfl) ?_
                refine TL.yld rfl rfl (yld_or_f rfl rfl hg384 rfl) ?_
                exact TL.nil fun a h => ⟨h.weaken ⟨rfl, rfl, rfl, rfl, trivial⟩, Ext.refl _⟩
            intro w385 hx386
            have he387 : Ext w w385 := Ext.trans he382 hx386
            have hb356 := Box.ext hb356 hx386
            have hb145 := Box.ext hb145 hx386
            have hb150 := Box.ext hb150 hx386
            have hb318 := Box.ext hb318 hx386
            have hs146 := ownR.ext hs146 hx386
            have hs147 := ownR.ext hs147 hx386
            have hs148 := ownR.ext hs148 hx386
            have hs371 := ownR.ext hs371 hx386
            have hs379 := ownR.ext hs379 hx386
            have hz388 := (hx386).size
            refine TL.done ?_
            refine NX.seq ?_
            refine WC.cond rfl ?_ ?_
            · intro hc389
              replace hF := bif_t hc389 hF
              refine WC.seq ?_
              refine WC.region ?_
              refine TL.yld rfl rfl (yld_assign rfl rfl) ?_
              refine TL.done ?_
              refine NX.seq ?_
              refine WC.ret' ?_
              refine NX.then_r ?_
              obtain rfl := Option.some.inj hF
              exact NX.end (rs := [.tmp 2]) (vs := [.bool false]) rfl ⟨rfl, trivial⟩ ⟨_, rfl, rfl, he387⟩
            · intro hc390
              replace hF := bif_f hc390 hF
              refine WC.skip' ?_
              refine NX.seq ?_
              refine WC.seq ?_
              refine WC.seq ?_
              refine WC.region ?_
              refine TL.yld rfl rfl (yld_assign rfl rfl) ?_
              refine TL.done ?_
              refine NX.seq ?_
              refine WC.block ?_
              refine WC.loop (fun m399 a wl => ∃ (i393 : Int), Kn 127 [(4, .pointer (some ⟨b35, 0, none⟩)), (5, v51), (12, v378), (14, .int .i64 i393)] a ∧ Ext w wl ∧ w385.heap.size ≤ wl.heap.size ∧ Box wl b35 [v24, v26] 38 ∧ ownR (cInt .i64) wl (w42.heap.size) (Iv 0 0) 2 r47.1 v51 ∧ ownR (cInt .i64) wl (w369.heap.size) (Iv 0 0) 2 r374.1 v378 ∧ ownR C_Latch wl (w13.heap.size) (Iv 0 0) 50 r20.Latches v24 ∧ ownR C_LatchLink wl (w13.heap.size) (Iv 0 0) 77 r20.Links v26 ∧ F_laws_FnDepartures_L1 r20 r47 r374 (fun i393 => (some true)) m399 i393 = some r) n ?_ ?_
              · intro a hK; exact ⟨0, hK.weaken ⟨rfl, rfl, rfl, rfl, trivial⟩, he387, Nat.le_refl _, hb145, hs148, hs379, hs146, hs147, hF⟩
              · rintro m399 a w391 ⟨i393, hK, he392, hz400, hb394, hs395, hs396, hs397, hs398, hF⟩
                revert hK; revert a; refine (?_ : WC _ _ _ _ _ _)
                cases m399 with
                | zero => rw [F_laws_FnDepartures_L1_z] at hF; cases hF
                | succ m399 =>
                  rw [F_laws_FnDepartures_L1_s] at hF
                  refine WC.seq ?_
                  refine WC.seq ?_
                  refine WC.region ?_
                  refine TL.yld rfl rfl (yld_move rfl rfl) ?_
                  refine TL.yld rfl rfl (yld_move rfl rfl) ?_
                  refine TL.yld rfl rfl (yld_len_own (c := (cInt .i64)) rfl Try.underlying45 rfl hs395) ?_
                  refine TL.yld rfl rfl (yld_lss rfl rfl rfl) ?_
                  refine TL.done ?_
                  refine NX.seq ?_
                  refine WC.cond rfl ?_ ?_
                  · intro hc401
                    replace hF := bif_t hc401 hF
                    refine WC.skip' ?_
                    refine NX.seq ?_
                    refine WC.seq ?_
                    refine WC.block ?_
                    refine WC.seq ?_
                    refine WC.quiet Try.hm (by kernel_rfl) ?_
                    refine QL.yld rfl rfl (Yld.qui (yld_move rfl rfl)) ?_
                    refine QL.yld rfl rfl (Yld.qui (yld_move rfl rfl)) ?_
                    obtain ⟨x402, hy403, hF⟩ := bsome hF
                    refine QL.ye rfl rfl (ye_index_own (c := (cInt .i64)) rfl Try.underlying45 cn_2 rfl rfl hs395 hy403) ?_
                    rintro _ ⟨g404, us406, rfl, hg405, hr407, hcl408⟩
                    have hr407r := hr407
                    obtain rfl := hr407
                    refine QL.yld rfl rfl (Yld.qui (yld_load1 0 rfl ag_2 rfl hcl408 rfl rfl)) ?_
                    refine QL.yld rfl rfl (Yld.qui (yld_fieldAddr rfl fo_38_0 rfl)) ?_
                    refine QL.yld rfl rfl (Yld.qui (yld_load1 0 rfl ag_35 rfl (Box.cells hb394) rfl rfl)) ?_
                    refine QL.yld rfl rfl (Yld.qui (yld_move rfl rfl)) ?_
                    obtain ⟨x409, hy410, hF⟩ := bsome hF
                    refine QL.ye rfl rfl (ye_index_own (c := C_Latch) rfl Try.underlying35 cn_50 rfl rfl hs397 hy410) ?_
                    rintro _ ⟨g411, us413, rfl, hg412, hr414, hcl415⟩
                    have hr414r := hr414
                    obtain rfl := C_Latch_open hr414
                    refine QL.yld rfl rfl (Yld.qui (yld_fieldAddr rfl fo_50_0 rfl)) ?_
                    refine QL.yld rfl rfl (Yld.qui (yld_load1 0 rfl ag_2 rfl hcl415 rfl rfl)) ?_
                    refine QL.yld rfl rfl (Yld.qui (yld_lss rfl rfl rfl)) ?_
                    refine QL.yld rfl rfl (Yld.qui (yld_move rfl rfl)) ?_
                    obtain ⟨c416, hb417, hF⟩ := bsome hF
                    refine QL.cut 10 [(4, .pointer (some ⟨b35, 0, none⟩)), (5, v51), (12, v378), (14, .int .i64 i393), (126, .bool c416)] ?_ ?_
                    · rcases Bool.eq_false_or_eq_true (decide (x402 < x409.Open)) with hg418 | hg418
                      ·
                        rw [hg418] at hb417; simp only [cond_true, cond_false] at hb417
                        refine QL.gnu (j := 11) (t := 116) rfl rfl rfl hg418 rfl ?_
                        refine QL.gnu (j := 11) (t := 116) rfl rfl rfl hg418 rfl ?_
                        refine QL.gnu (j := 11) (t := 116) rfl rfl rfl hg418 rfl ?_
                        refine QL.gnu (j := 11) (t := 116) rfl rfl rfl hg418 rfl ?_
                        refine QL.gnu (j := 11) (t := 116) rfl rfl rfl hg418 rfl ?_
                        refine QL.gnu (j := 11) (t := 116) rfl rfl rfl hg418 rfl ?_
                        refine QL.gnu (j := 11) (t := 116) rfl rfl rfl hg418 rfl ?_
                        refine QL.gnu (j := 11) (t := 116) rfl rfl rfl hg418 rfl ?_
                        refine QL.gnu (j := 11) (t := 116) rfl rfl rfl hg418 rfl ?_
                        obtain rfl := Option.some.inj hb417
                        refine QL.yld rfl rfl (Yld.qui (yld_pick_t rfl rfl hg418 rfl)) ?_
                        exact QL.nil fun a h => h.weaken ⟨rfl, rfl, rfl, rfl, rfl, trivial⟩
                      ·
                        rw [hg418] at hb417; simp only [cond_true, cond_false] at hb417
                        replace hF := hb417
                        refine QL.gy (j := 11) (t := 116) rfl rfl rfl hg418 rfl (Yld.qui (yld_move rfl rfl)) ?_
                        refine QL.gy (j := 11) (t := 116) rfl rfl rfl hg418 rfl (Yld.qui (yld_move rfl rfl)) ?_
                        obtain ⟨x419, hy420, hF⟩ := bsome hF
                        refine QL.yeg (j := 11) (t := 116) rfl rfl rfl hg418 rfl (ye_index_own (c := (cInt .i64)) rfl Try.underlying45 cn_2 rfl rfl hs396 hy420) ?_
                        rintro _ ⟨g421, us423, rfl, hg422, hr424, hcl425⟩
                        have hr424r := hr424
                        obtain rfl := hr424
                        refine QL.gy (j := 11) (t := 116) rfl rfl rfl hg418 rfl (Yld.qui (yld_load1 0 rfl ag_2 rfl hcl425 rfl rfl)) ?_
                        refine QL.gy (j := 11) (t := 116) rfl rfl rfl hg418 rfl (Yld.qui (yld_move rfl rfl)) ?_
                        refine QL.gy (j := 11) (t := 116) rfl rfl rfl hg418 rfl (Yld.qui (yld_move rfl rfl)) ?_
                        obtain ⟨x426, hy427, hF⟩ := bsome hF
                        refine QL.yeg (j := 11) (t := 116) rfl rfl rfl hg418 rfl (ye_index_own (c := (cInt .i64)) rfl Try.underlying45 cn_2 rfl rfl hs395 hy427) ?_
                        rintro _ ⟨g428, us430, rfl, hg429, hr431, hcl432⟩
                        have hr431r := hr431
                        obtain rfl := hr431
                        refine QL.gy (j := 11) (t := 116) rfl rfl rfl hg418 rfl (Yld.qui (yld_load1 0 rfl ag_2 rfl hcl432 rfl rfl)) ?_
                        refine QL.gy (j := 11) (t := 116) rfl rfl rfl hg418 rfl (Yld.qui (yld_lss rfl rfl rfl)) ?_
                        obtain rfl := Option.some.inj hF
                        refine QL.yld rfl rfl (Yld.qui (yld_pick_f rfl rfl hg418 rfl)) ?_
                        exact QL.nil fun a h => h.weaken ⟨rfl, rfl, rfl, rfl, rfl, trivial⟩
                    refine QL.done fun w433 hx434 => ?_
                    have he435 : Ext w w433 := Ext.trans he392 hx434
                    have hb394 := Box.ext hb394 hx434
                    have hs395 := ownR.ext hs395 hx434
                    have hs396 := ownR.ext hs396 hx434
                    have hs397 := ownR.ext hs397 hx434
                    have hs398 := ownR.ext hs398 hx434
                    have hz436 := (hx434).size
                    refine NX.seq ?_
                    refine WC.cond rfl ?_ ?_
                    · intro hc437
                      replace hF := bif_t hc437 hF
                      refine WC.seq ?_
                      refine WC.region ?_
                      refine TL.yld rfl rfl (yld_assign rfl rfl) ?_
                      refine TL.done ?_
                      refine NX.seq ?_
                      refine WC.ret' ?_
                      refine NX.blk_r ?_
                      refine NX.then_r ?_
                      refine NX.then_r ?_
                      refine NX.blk_r ?_
                      refine NX.then_r ?_
                      obtain rfl := Option.some.inj hF
                      exact NX.end (rs := [.tmp 2]) (vs := [.bool false]) rfl ⟨rfl, trivial⟩ ⟨_, rfl, rfl, he435⟩
                    · intro hc438
                      replace hF := bif_f hc438 hF
                      refine WC.skip' ?_
                      refine NX.blk_n ?_
                      refine NX.seq ?_
                      refine WC.region ?_
                      refine TL.yld rfl rfl (yld_move rfl rfl) ?_
                      refine TL.yld rfl rfl (yld_add rfl rfl rfl) ?_
                      refine TL.yld rfl rfl (yld_assign rfl rfl) ?_
                      refine TL.done ?_
                      refine NX.then_n ?_
                      intro a hK; exact ⟨m399, Nat.lt_succ_self m399, (IntKind.wrap IntKind.i64 (i393 + 1)), hK.weaken ⟨rfl, rfl, rfl, rfl, trivial⟩, he435, (by omega), hb394, hs395, hs396, hs397, hs398, hF⟩
                  · intro hc439
                    replace hF := bif_f hc439 hF
                    refine WC.exit' ?_
                    refine NX.then_e ?_
                    refine NX.then_e ?_
                    refine NX.blk_hit ?_
                    refine NX.seq ?_
                    refine WC.seq ?_
                    refine WC.region ?_
                    refine TL.yld rfl rfl (yld_assign rfl rfl) ?_
                    refine TL.done ?_
                    refine NX.seq ?_
                    refine WC.ret' ?_
                    obtain rfl := Option.some.inj hF
                    exact NX.end (rs := [.tmp 2]) (vs := [.bool true]) rfl ⟨rfl, trivial⟩ ⟨_, rfl, rfl, he392⟩

theorem Rd_5 : Rd Try.prog 5 (cInt .u8) (inK .u8) := Rd.int Try.underlying5
theorem Rd_42 : Rd Try.prog 42 (cSl (cInt .u8)) (fun xs => xs.length ≤ 9223372036854775807 ∧ ∀ x ∈ xs, (inK .u8) x) := Rd.slice Try.underlying42 (by kernel_rfl) rfl Rd_5
end Go.Proofs.Ytmhmpfckdhiijaa
