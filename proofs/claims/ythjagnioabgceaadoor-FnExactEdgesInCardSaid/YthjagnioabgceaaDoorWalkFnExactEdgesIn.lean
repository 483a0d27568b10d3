/- The walks: every function that FnExactEdgesIn reaches computes the plain function that is typed beside it; no condition. -/
import Derived.Test.YthjagnioabgceaaDoorWalkFnExactEdgesInP0
import Derived.Test.YthjagnioabgceaaDoorDat
import Derived.Test.YthjagnioabgceaaDoorShelf
set_option linter.all false
set_option maxRecDepth 20000
namespace Go.Proofs.YthjagnioabgceaaDoor
open Go Go.RowKit Go.Eng
-- loop.example/g00861/spec.IsClocks
def F_spec_IsClocks_L2 (a0_list : List S_Clock) (i5 : Int) (x12 : S_Clock) (k2 : Int → Option Bool) : Nat → Int → Option Bool
  | 0 => fun _ => none
  | m + 1 => fun i42 => (bif decide (i42 < i5) then (Option.bind (getI a0_list i42) fun x45 => (bif (x45.Name.toList == x12.Name.toList) then (some false) else (F_spec_IsClocks_L2 a0_list i5 x12 k2 m (IntKind.wrap IntKind.i64 (i42 + 1))))) else (k2 i42))
theorem F_spec_IsClocks_L2_z (a0_list : List S_Clock) (i5 : Int) (x12 : S_Clock) (k2 : Int → Option Bool) (i42 : Int) : F_spec_IsClocks_L2 a0_list i5 x12 k2 0 i42 = none := rfl
theorem F_spec_IsClocks_L2_s (m : Nat) (a0_list : List S_Clock) (i5 : Int) (x12 : S_Clock) (k2 : Int → Option Bool) (i42 : Int) : F_spec_IsClocks_L2 a0_list i5 x12 k2 (m + 1) i42 = (bif decide (i42 < i5) then (Option.bind (getI a0_list i42) fun x45 => (bif (x45.Name.toList == x12.Name.toList) then (some false) else (F_spec_IsClocks_L2 a0_list i5 x12 k2 m (IntKind.wrap IntKind.i64 (i42 + 1))))) else (k2 i42)) := rfl

def F_spec_IsClocks_L1 (n : Nat) (a0_list : List S_Clock) (k0 : Int → Option Bool) : Nat → Int → Option Bool
  | 0 => fun _ => none
  | m + 1 => fun i5 => (bif ((decide (i5 < (a0_list.length : Int))) && (decide ((a0_list.length : Int) ≤ 6))) then (Option.bind (getI a0_list i5) fun x12 => (Option.bind (F_spec_l14Plain n x12) fun r32 => (bif (!r32) then (some false) else (F_spec_IsClocks_L2 a0_list i5 x12 (fun i42 => (bif (x12.Source == (-1)) then (Option.bind (F_spec_l14Primary n x12) fun r45 => (bif (!r45) then (some false) else (F_spec_IsClocks_L1 n a0_list k0 m (IntKind.wrap IntKind.i64 (i5 + 1))))) else (Option.bind (F_spec_l01In n x12.Source 0 (IntKind.wrap IntKind.i64 (i5 - 1))) fun r54 => (Option.bind (bif (!r54) then (some true) else (Option.bind (F_spec_l01In n x12.Divide 1 8) fun r60 => (some (!r60)))) fun c60 => (Option.bind (bif (((((c60 || ((x12.Period != 0)))) || ((x12.RiseAt != 0)))) || ((x12.FallAt != 0))) then (some true) else (Option.bind (F_spec_l14Of n a0_list i5) fun r88 => (some (decide (r88.period_ > 100000))))) fun c88 => (bif c88 then (some false) else (F_spec_IsClocks_L1 n a0_list k0 m (IntKind.wrap IntKind.i64 (i5 + 1))))))))) n 0)))) else (k0 i5))
theorem F_spec_IsClocks_L1_z (n : Nat) (a0_list : List S_Clock) (k0 : Int → Option Bool) (i5 : Int) : F_spec_IsClocks_L1 n a0_list k0 0 i5 = none := rfl
theorem F_spec_IsClocks_L1_s (m : Nat) (n : Nat) (a0_list : List S_Clock) (k0 : Int → Option Bool) (i5 : Int) : F_spec_IsClocks_L1 n a0_list k0 (m + 1) i5 = (bif ((decide (i5 < (a0_list.length : Int))) && (decide ((a0_list.length : Int) ≤ 6))) then (Option.bind (getI a0_list i5) fun x12 => (Option.bind (F_spec_l14Plain n x12) fun r32 => (bif (!r32) then (some false) else (F_spec_IsClocks_L2 a0_list i5 x12 (fun i42 => (bif (x12.Source == (-1)) then (Option.bind (F_spec_l14Primary n x12) fun r45 => (bif (!r45) then (some false) else (F_spec_IsClocks_L1 n a0_list k0 m (IntKind.wrap IntKind.i64 (i5 + 1))))) else (Option.bind (F_spec_l01In n x12.Source 0 (IntKind.wrap IntKind.i64 (i5 - 1))) fun r54 => (Option.bind (bif (!r54) then (some true) else (Option.bind (F_spec_l01In n x12.Divide 1 8) fun r60 => (some (!r60)))) fun c60 => (Option.bind (bif (((((c60 || ((x12.Period != 0)))) || ((x12.RiseAt != 0)))) || ((x12.FallAt != 0))) then (some true) else (Option.bind (F_spec_l14Of n a0_list i5) fun r88 => (some (decide (r88.period_ > 100000))))) fun c88 => (bif c88 then (some false) else (F_spec_IsClocks_L1 n a0_list k0 m (IntKind.wrap IntKind.i64 (i5 + 1))))))))) n 0)))) else (k0 i5)) := rfl

def F_spec_IsClocks (n : Nat) (a0_list : List S_Clock) : Option Bool := (F_spec_IsClocks_L1 n a0_list (fun i5 => (some (decide ((a0_list.length : Int) ≤ 6)))) n 0)
set_option maxHeartbeats 40000000 in
theorem W_spec_IsClocks {n : Nat} {a0_list : List S_Clock} {r : Bool} {w : World} {v1 : Value} (hF : F_spec_IsClocks n a0_list = some r) (ha2 : slRep C_Clock w (Iv 0 w.heap.size) a0_list v1) :
    Calls Tryd.prog 16 [v1].toArray w (Ret fun u w2 => u = .bool r ∧ Ext w w2) := by
  refine calls_of Tryd.func16 rfl Tryd.ntmps16 ?_
  have he0 : Ext w w := Ext.refl w
  unfold F_spec_IsClocks at hF
  refine WC.seq ?_
  refine WC.region ?_
  refine TL.yld rfl rfl (yld_assign rfl rfl) ?_
  refine TL.done ?_
  refine NX.seq ?_
  refine WC.seq ?_
  refine WC.seq ?_
  refine WC.region ?_
  refine TL.yld rfl rfl (yld_assign rfl rfl) ?_
  refine TL.done ?_
  refine NX.seq ?_
  refine WC.block ?_
  refine WC.loop (fun m6 a wl => ∃ (i5 : Int), Kn 80 [(0, v1), (3, .int .i64 i5)] a ∧ Ext w wl ∧ w.heap.size ≤ wl.heap.size ∧ F_spec_IsClocks_L1 n a0_list (fun i5 => (some (decide ((a0_list.length : Int) ≤ 6)))) m6 i5 = some r) n ?_ ?_
  · intro a hK; exact ⟨0, hK.weaken ⟨rfl, rfl, trivial⟩, he0, Nat.le_refl _, hF⟩
  · rintro m6 a w3 ⟨i5, hK, he4, hz7, hF⟩
    revert hK; revert a; refine (?_ : WC _ _ _ _ _ _)
    cases m6 with
    | zero => rw [F_spec_IsClocks_L1_z] at hF; cases hF
    | succ m6 =>
      rw [F_spec_IsClocks_L1_s] at hF
      refine WC.seq ?_
      refine WC.seq ?_
      refine WC.region ?_
      refine TL.yld rfl rfl (yld_move rfl rfl) ?_
      refine TL.yld rfl rfl (yld_move rfl rfl) ?_
      refine TL.yld rfl rfl (ye_len (c := C_Clock) rfl Tryd.underlying25 rfl (slRep.old ha2 he4 (Nat.le_refl _))) ?_
      refine TL.yld rfl rfl (yld_lss rfl rfl rfl) ?_
      refine TL.yld rfl rfl (yld_move rfl rfl) ?_
      refine TL.cut 4 [(0, v1), (3, .int .i64 i5), (14, .bool (((decide (i5 < (a0_list.length : Int))) && (decide ((a0_list.length : Int) ≤ 6)))))] (fun w' => Ext w3 w') ?_ ?_
      · rcases Bool.eq_false_or_eq_true (decide (i5 < (a0_list.length : Int))) with hg8 | hg8
        ·
          refine TL.gy (j := 4) (t := 10) rfl rfl rfl hg8 rfl (yld_move rfl rfl) ?_
          refine TL.gy (j := 4) (t := 10) rfl rfl rfl hg8 rfl (ye_len (c := C_Clock) rfl Tryd.underlying25 rfl (slRep.old ha2 he4 (Nat.le_refl _))) ?_
          refine TL.gy (j := 4) (t := 10) rfl rfl rfl hg8 rfl (yld_leq rfl rfl rfl) ?_
          refine TL.yld rfl rfl (yld_and_t rfl rfl hg8 rfl) ?_
          exact TL.nil fun a h => ⟨h.weaken ⟨rfl, rfl, rfl, trivial⟩, Ext.refl _⟩
        ·
          refine TL.gnu (j := 4) (t := 10) rfl rfl rfl hg8 rfl ?_
          refine TL.gnu (j := 4) (t := 10) rfl rfl rfl hg8 rfl ?_
          refine TL.gnu (j := 4) (t := 10) rfl rfl rfl hg8 rfl ?_
          refine TL.yld rfl rfl (yld_and_f (b2 := decide ((a0_list.length : Int) ≤ 6)) rfl rfl hg8 rfl) ?_
          exact TL.nil fun a h => ⟨h.weaken ⟨rfl, rfl, rfl, trivial⟩, Ext.refl _⟩
      intro w9 hx10
      have he11 : Ext w w9 := Ext.trans he4 hx10
      have hz12 := (hx10).size
      refine TL.done ?_
      refine NX.seq ?_
      refine WC.cond rfl ?_ ?_
      · intro hc13
        replace hF := bif_t hc13 hF
        refine WC.skip' ?_
        refine NX.seq ?_
        refine WC.seq ?_
        refine WC.block ?_
        refine WC.seq ?_
        refine WC.region ?_
        refine TL.yld rfl rfl (yld_move rfl rfl) ?_
        refine TL.yld rfl rfl (yld_move rfl rfl) ?_
        obtain ⟨x14, hy15, hF⟩ := bsome hF
        refine TL.ye rfl rfl (ye_index (c := C_Clock) rfl Tryd.underlying25 cn_45 rfl rfl (slRep.old ha2 he11 (Nat.le_refl _)) hy15) ?_
        rintro _ ⟨b16, o17, us18, rfl, hib21, hr19, hcl20⟩
        have hib21 : 0 ≤ b16 ∧ b16 < w.heap.size := ⟨hib21.1, by have := hib21.2; omega⟩
        obtain rfl := C_Clock_open hr19
        refine TL.yld rfl rfl (yld_loadN (us := [.string x14.Name, .int .i64 x14.Place, .int .i64 x14.Period, .int .i64 x14.RiseAt, .int .i64 x14.FallAt, .int .i64 x14.Source, .int .i64 x14.Divide, .bool x14.Invert, .int .i64 x14.EarlyLatency, .int .i64 x14.LateLatency, .int .i64 x14.Uncertainty]) rfl ag_45 rfl hcl20 cn_45) ?_
        refine TL.eff rfl rfl (eff_alloc rfl zn_45) ?_
        rintro _ w23 ⟨b22, rfl, hn24⟩
        obtain ⟨hn24e, hn24s, hn24x, hb25⟩ := hn24
        have hb25 : Box w23 b22 [.string ByteArray.empty, .int .i64 0, .int .i64 0, .int .i64 0, .int .i64 0, .int .i64 0, .int .i64 0, .bool false, .int .i64 0, .int .i64 0, .int .i64 0] 45 := hb25
        have he27 : Ext w w23 := Ext.trans he11 hn24x
        have hz28 := (hn24x).size
        have hlo26 : w.heap.size ≤ b22 := by rw [hn24e]; exact (he11).size
        refine TL.eff rfl rfl (eff_store rfl rfl rfl hb25 cn_45 rfl rfl) ?_
        rintro _ w29 ⟨hu30, hb31⟩
        have he32 : Ext w w29 := Below.trans he27 (Upd.below hu30 (by omega))
        have hz33 := (hu30).size
        have hb25 : Box w29 b22 [.string x14.Name, .int .i64 x14.Place, .int .i64 x14.Period, .int .i64 x14.RiseAt, .int .i64 x14.FallAt, .int .i64 x14.Source, .int .i64 x14.Divide, .bool x14.Invert, .int .i64 x14.EarlyLatency, .int .i64 x14.LateLatency, .int .i64 x14.Uncertainty] 45 := hb31
        refine TL.done ?_
        refine NX.seq ?_
        refine WC.seq ?_
        refine WC.seq ?_
        refine WC.region ?_
        refine TL.yld rfl rfl (yld_loadN (us := [.string x14.Name, .int .i64 x14.Place, .int .i64 x14.Period, .int .i64 x14.RiseAt, .int .i64 x14.FallAt, .int .i64 x14.Source, .int .i64 x14.Divide, .bool x14.Invert, .int .i64 x14.EarlyLatency, .int .i64 x14.LateLatency, .int .i64 x14.Uncertainty]) rfl ag_45 rfl (Box.cells hb25) cn_45) ?_
        obtain ⟨r34, hr35, hF⟩ := bsome hF
        refine TL.eff rfl rfl (eff_call rfl gf_45 rfl (W_spec_l14Plain hr35)) ?_
        rintro _ w36 ⟨rfl, hx37⟩
        have he38 : Ext w w36 := Ext.trans he32 hx37
        have hb25 := Box.ext hb25 hx37
        have hz39 := (hx37).size
        refine TL.yld rfl rfl (yld_not rfl rfl) ?_
        refine TL.done ?_
        refine NX.seq ?_
        refine WC.cond rfl ?_ ?_
        · intro hc40
          replace hF := bif_t hc40 hF
          refine WC.seq ?_
          refine WC.region ?_
          refine TL.yld rfl rfl (yld_assign rfl rfl) ?_
          refine TL.done ?_
          refine NX.seq ?_
          refine WC.ret' ?_
          refine NX.then_r ?_
          refine NX.blk_r ?_
          refine NX.then_r ?_
          refine NX.then_r ?_
          refine NX.blk_r ?_
          refine NX.then_r ?_
          obtain rfl := Option.some.inj hF
          exact NX.end (rs := [.tmp 2]) (vs := [.bool false]) rfl ⟨rfl, trivial⟩ ⟨_, rfl, rfl, he38⟩
        · intro hc41
          replace hF := bif_f hc41 hF
          refine WC.skip' ?_
          refine NX.seq ?_
          refine WC.seq ?_
          refine WC.seq ?_
          refine WC.region ?_
          refine TL.yld rfl rfl (yld_assign rfl rfl) ?_
          refine TL.done ?_
          refine NX.seq ?_
          refine WC.block ?_
          refine WC.loop (fun m46 a wl => ∃ (i44 : Int), Kn 80 [(0, v1), (3, .int .i64 i5), (4, .pointer (some ⟨b22, 0, none⟩)), (5, .int .i64 i44)] a ∧ Ext w wl ∧ w36.heap.size ≤ wl.heap.size ∧ Box wl b22 [.string x14.Name, .int .i64 x14.Place, .int .i64 x14.Period, .int .i64 x14.RiseAt, .int .i64 x14.FallAt, .int .i64 x14.Source, .int .i64 x14.Divide, .bool x14.Invert, .int .i64 x14.EarlyLatency, .int .i64 x14.LateLatency, .int .i64 x14.Uncertainty] 45 ∧ F_spec_IsClocks_L2 a0_list i5 x14 (fun i44 => (bif (x14.Source == (-1)) then (Option.bind (F_spec_l14Primary n x14) fun r47 => (bif (!r47) then (some false) else (F_spec_IsClocks_L1 n a0_list (fun i5 => (some (decide ((a0_list.length : Int) ≤ 6)))) m6 (IntKind.wrap IntKind.i64 (i5 + 1))))) else (Option.bind (F_spec_l01In n x14.Source 0 (IntKind.wrap IntKind.i64 (i5 - 1))) fun r56 => (Option.bind (bif (!r56) then (some true) else (Option.bind (F_spec_l01In n x14.Divide 1 8) fun r62 => (some (!r62)))) fun c62 => (Option.bind (bif (((((c62 || ((x14.Period != 0)))) || ((x14.RiseAt != 0)))) || ((x14.FallAt != 0))) then (some true) else (Option.bind (F_spec_l14Of n a0_list i5) fun r90 => (some (decide (r90.period_ > 100000))))) fun c90 => (bif c90 then (some false) else (F_spec_IsClocks_L1 n a0_list (fun i5 => (some (decide ((a0_list.length : Int) ≤ 6)))) m6 (IntKind.wrap IntKind.i64 (i5 + 1))))))))) m46 i44 = some r) n ?_ ?_
          · intro a hK; exact ⟨0, hK.weaken ⟨rfl, rfl, rfl, rfl, trivial⟩, he38, Nat.le_refl _, hb25, hF⟩
          · rintro m46 a w42 ⟨i44, hK, he43, hz47, hb45, hF⟩
            revert hK; revert a; refine (?_ : WC _ _ _ _ _ _)
            cases m46 with
            | zero => rw [F_spec_IsClocks_L2_z] at hF; cases hF
            | succ m46 =>
              rw [F_spec_IsClocks_L2_s] at hF
              refine WC.seq ?_
              refine WC.seq ?_
              refine WC.region ?_
              refine TL.yld rfl rfl (yld_move rfl rfl) ?_
              refine TL.yld rfl rfl (yld_move rfl rfl) ?_
              refine TL.yld rfl rfl (yld_lss rfl rfl rfl) ?_
              refine TL.done ?_
              refine NX.seq ?_
              refine WC.cond rfl ?_ ?_
              · intro hc48
                replace hF := bif_t hc48 hF
                refine WC.skip' ?_
                refine NX.seq ?_
                refine WC.seq ?_
                refine WC.block ?_
                refine WC.seq ?_
                refine WC.quiet Tryd.hm (by kernel_rfl) ?_
                refine QL.yld rfl rfl (Yld.qui (yld_move rfl rfl)) ?_
                refine QL.yld rfl rfl (Yld.qui (yld_move rfl rfl)) ?_
                obtain ⟨x49, hy50, hF⟩ := bsome hF
                refine QL.ye rfl rfl (ye_index (c := C_Clock) rfl Tryd.underlying25 cn_45 rfl rfl (slRep.old ha2 he43 (Nat.le_refl _)) hy50) ?_
                rintro _ ⟨b51, o52, us53, rfl, hib56, hr54, hcl55⟩
                have hib56 : 0 ≤ b51 ∧ b51 < w.heap.size := ⟨hib56.1, by have := hib56.2; omega⟩
                obtain rfl := C_Clock_open hr54
                refine QL.yld rfl rfl (Yld.qui (yld_fieldAddr rfl fo_45_0 rfl)) ?_
                refine QL.yld rfl rfl (Yld.qui (yld_load1 0 rfl ag_9 rfl hcl55 rfl rfl)) ?_
                refine QL.yld rfl rfl (Yld.qui (yld_fieldAddr rfl fo_45_0 rfl)) ?_
                refine QL.yld rfl rfl (Yld.qui (yld_load1 0 rfl ag_9 rfl (Box.cells hb45) rfl rfl)) ?_
                refine QL.yld rfl rfl (Yld.qui (yld_eqs rfl rfl rfl)) ?_
                refine QL.done fun w57 hx58 => ?_
                have he59 : Ext w w57 := Ext.trans he43 hx58
                have hb45 := Box.ext hb45 hx58
                have hz60 := (hx58).size
                refine NX.seq ?_
                refine WC.cond rfl ?_ ?_
                · intro hc61
                  replace hF := bif_t hc61 hF
                  refine WC.seq ?_
                  refine WC.region ?_
                  refine TL.yld rfl rfl (yld_assign rfl rfl) ?_
                  refine TL.done ?_
                  refine NX.seq ?_
                  refine WC.ret' ?_
                  refine NX.blk_r ?_
                  refine NX.then_r ?_
                  refine NX.then_r ?_
                  refine NX.blk_r ?_
                  refine NX.then_r ?_
                  refine NX.blk_r ?_
                  refine NX.then_r ?_
                  refine NX.then_r ?_
                  refine NX.blk_r ?_
                  refine NX.then_r ?_
                  obtain rfl := Option.some.inj hF
                  exact NX.end (rs := [.tmp 2]) (vs := [.bool false]) rfl ⟨rfl, trivial⟩ ⟨_, rfl, rfl, he59⟩
                · intro hc62
                  replace hF := bif_f hc62 hF
                  refine WC.skip' ?_
                  refine NX.blk_n ?_
                  refine NX.seq ?_
                  refine WC.region ?_
                  refine TL.yld rfl rfl (yld_move rfl rfl) ?_
                  refine TL.yld rfl rfl (yld_add rfl rfl rfl) ?_
                  refine TL.yld rfl rfl (yld_assign rfl rfl) ?_
                  refine TL.done ?_
                  refine NX.then_n ?_
                  intro a hK; exact ⟨m46, Nat.lt_succ_self m46, (IntKind.wrap IntKind.i64 (i44 + 1)), hK.weaken ⟨rfl, rfl, rfl, rfl, trivial⟩, he59, (by omega), hb45, hF⟩
              · intro hc63
                replace hF := bif_f hc63 hF
                refine WC.exit' ?_
                refine NX.then_e ?_
                refine NX.then_e ?_
                refine NX.blk_hit ?_
                refine NX.seq ?_
                refine WC.seq ?_
                refine WC.seq ?_
                refine WC.region ?_
                refine TL.yld rfl rfl (yld_fieldAddr rfl fo_45_5 rfl) ?_
                refine TL.yld rfl rfl (yld_load1 5 rfl ag_2 rfl (Box.cells hb45) rfl rfl) ?_
                refine TL.yld rfl rfl (yld_eql rfl rfl rfl) ?_
                refine TL.done ?_
                refine NX.seq ?_
                refine WC.cond rfl ?_ ?_
                · intro hc64
                  replace hF := bif_t hc64 hF
                  refine WC.seq ?_
                  refine WC.seq ?_
                  refine WC.region ?_
                  refine TL.yld rfl rfl (yld_loadN (us := [.string x14.Name, .int .i64 x14.Place, .int .i64 x14.Period, .int .i64 x14.RiseAt, .int .i64 x14.FallAt, .int .i64 x14.Source, .int .i64 x14.Divide, .bool x14.Invert, .int .i64 x14.EarlyLatency, .int .i64 x14.LateLatency, .int .i64 x14.Uncertainty]) rfl ag_45 rfl (Box.cells hb45) cn_45) ?_
                  obtain ⟨r65, hr66, hF⟩ := bsome hF
                  refine TL.eff rfl rfl (eff_call rfl gf_46 rfl (W_spec_l14Primary hr66)) ?_
                  rintro _ w67 ⟨rfl, hx68⟩
                  have he69 : Ext w w67 := Ext.trans he43 hx68
                  have hb45 := Box.ext hb45 hx68
                  have hz70 := (hx68).size
                  refine TL.yld rfl rfl (yld_not rfl rfl) ?_
                  refine TL.done ?_
                  refine NX.seq ?_
                  refine WC.cond rfl ?_ ?_
                  · intro hc71
                    replace hF := bif_t hc71 hF
                    refine WC.seq ?_
                    refine WC.region ?_
                    refine TL.yld rfl rfl (yld_assign rfl rfl) ?_
                    refine TL.done ?_
                    refine NX.seq ?_
                    refine WC.ret' ?_
                    refine NX.then_r ?_
                    refine NX.then_r ?_
                    refine NX.blk_r ?_
                    refine NX.then_r ?_
                    refine NX.then_r ?_
                    refine NX.blk_r ?_
                    refine NX.then_r ?_
                    obtain rfl := Option.some.inj hF
                    exact NX.end (rs := [.tmp 2]) (vs := [.bool false]) rfl ⟨rfl, trivial⟩ ⟨_, rfl, rfl, he69⟩
                  · intro hc72
                    replace hF := bif_f hc72 hF
                    refine WC.skip' ?_
                    refine NX.seq ?_
                    refine WC.exit' ?_
                    refine NX.then_e ?_
                    refine NX.blk_hit ?_
                    refine NX.seq ?_
                    refine WC.region ?_
                    refine TL.yld rfl rfl (yld_move rfl rfl) ?_
                    refine TL.yld rfl rfl (yld_add rfl rfl rfl) ?_
                    refine TL.yld rfl rfl (yld_assign rfl rfl) ?_
                    refine TL.done ?_
                    refine NX.then_n ?_
                    intro a hK; exact ⟨m6, Nat.lt_succ_self m6, (IntKind.wrap IntKind.i64 (i5 + 1)), hK.weaken ⟨rfl, rfl, trivial⟩, he69, (by omega), hF⟩
                · intro hc73
                  replace hF := bif_f hc73 hF
                  refine WC.skip' ?_
                  refine NX.seq ?_
                  refine WC.seq ?_
                  refine WC.region ?_
                  refine TL.yld rfl rfl (yld_fieldAddr rfl fo_45_5 rfl) ?_
                  refine TL.yld rfl rfl (yld_load1 5 rfl ag_2 rfl (Box.cells hb45) rfl rfl) ?_
                  refine TL.yld rfl rfl (yld_move rfl rfl) ?_
                  refine TL.yld rfl rfl (yld_sub rfl rfl rfl) ?_
                  obtain ⟨r74, hr75, hF⟩ := bsome hF
                  refine TL.eff rfl rfl (eff_call rfl gf_47 rfl (W_spec_l01In hr75)) ?_
                  rintro _ w76 ⟨rfl, hx77⟩
                  have he78 : Ext w w76 := Ext.trans he43 hx77
                  have hb45 := Box.ext hb45 hx77
                  have hz79 := (hx77).size
                  refine TL.yld rfl rfl (yld_not rfl rfl) ?_
                  refine TL.yld rfl rfl (yld_move rfl rfl) ?_
                  obtain ⟨c80, hb81, hF⟩ := bsome hF
                  refine TL.cut 5 [(0, v1), (3, .int .i64 i5), (4, .pointer (some ⟨b22, 0, none⟩)), (54, .bool c80)] (fun w' => Ext w76 w') ?_ ?_
                  · rcases Bool.eq_false_or_eq_true (!r74) with hg82 | hg82
                    ·
                      rw [hg82] at hb81; simp only [cond_true, cond_false] at hb81
                      refine TL.gnu (j := 6) (t := 49) rfl rfl rfl hg82 rfl ?_
                      refine TL.gnu (j := 6) (t := 49) rfl rfl rfl hg82 rfl ?_
                      refine TL.gnu (j := 6) (t := 49) rfl rfl rfl hg82 rfl ?_
                      refine TL.gnu (j := 6) (t := 49) rfl rfl rfl hg82 rfl ?_
                      obtain rfl := Option.some.inj hb81
                      refine TL.yld rfl rfl (yld_pick_t rfl rfl hg82 rfl) ?_
                      exact TL.nil fun a h => ⟨h.weaken ⟨rfl, rfl, rfl, rfl, trivial⟩, Ext.refl _⟩
                    ·
                      rw [hg82] at hb81; simp only [cond_true, cond_false] at hb81
                      replace hF := hb81
                      refine TL.gy (j := 6) (t := 49) rfl rfl rfl hg82 rfl (yld_fieldAddr rfl fo_45_6 rfl) ?_
                      refine TL.gy (j := 6) (t := 49) rfl rfl rfl hg82 rfl (yld_load1 6 rfl ag_2 rfl (Box.cells hb45) rfl rfl) ?_
                      obtain ⟨r83, hr84, hF⟩ := bsome hF
                      refine TL.ge (j := 6) (t := 49) rfl rfl rfl hg82 rfl (eff_call rfl gf_47 rfl (W_spec_l01In hr84)) ?_
                      rintro _ w85 ⟨rfl, hx86⟩
                      have he87 : Ext w w85 := Ext.trans he78 hx86
                      have hb45 := Box.ext hb45 hx86
                      have hz88 := (hx86).size
                      refine TL.gy (j := 6) (t := 49) rfl rfl rfl hg82 rfl (yld_not rfl rfl) ?_
                      obtain rfl := Option.some.inj hF
                      refine TL.yld rfl rfl (yld_pick_f rfl rfl hg82 rfl) ?_
                      exact TL.nil fun a h => ⟨h.weaken ⟨rfl, rfl, rfl, rfl, trivial⟩, hx86⟩
                  intro w89 hx90
                  have he91 : Ext w w89 := Ext.trans he78 hx90
                  have hb45 := Box.ext hb45 hx90
                  have hz92 := (hx90).size
                  refine TL.yld rfl rfl (yld_move rfl rfl) ?_
                  refine TL.cut 4 [(0, v1), (3, .int .i64 i5), (4, .pointer (some ⟨b22, 0, none⟩)), (59, .bool ((c80 || ((x14.Period != 0)))))] (fun w' => Ext w89 w') ?_ ?_
                  · rcases Bool.eq_false_or_eq_true c80 with hg93 | hg93
                    ·
                      refine TL.gnu (j := 12) (t := 55) rfl rfl rfl hg93 rfl ?_
                      refine TL.gnu (j := 12) (t := 55) rfl rfl rfl hg93 rfl ?_
                      refine TL.gnu (j := 12) (t := 55) rfl rfl rfl hg93 rfl ?_
                      refine TL.yld rfl rfl (yld_or_t (b2 := (x14.Period != 0)) rfl rfl hg93 rfl) ?_
                      exact TL.nil fun a h => ⟨h.weaken ⟨rfl, rfl, rfl, rfl, trivial⟩, Ext.refl _⟩
                    ·
                      refine TL.gy (j := 12) (t := 55) rfl rfl rfl hg93 rfl (yld_fieldAddr rfl fo_45_2 rfl) ?_
                      refine TL.gy (j := 12) (t := 55) rfl rfl rfl hg93 rfl (yld_load1 2 rfl ag_2 rfl (Box.cells hb45) rfl rfl) ?_
                      refine TL.gy (j := 12) (t := 55) rfl rfl rfl hg93 rfl (yld_neq rfl rfl rfl) ?_
                      refine TL.yld rfl rfl (yld_or_f rfl rfl hg93 rfl) ?_
                      exact TL.nil fun a h => ⟨h.weaken ⟨rfl, rfl, rfl, rfl, trivial⟩, Ext.refl _⟩
                  intro w94 hx95
                  have he96 : Ext w w94 := Ext.trans he91 hx95
                  have hb45 := Box.ext hb45 hx95
                  have hz97 := (hx95).size
                  refine TL.yld rfl rfl (yld_move rfl rfl) ?_
                  refine TL.cut 4 [(0, v1), (3, .int .i64 i5), (4, .pointer (some ⟨b22, 0, none⟩)), (64, .bool ((((c80 || ((x14.Period != 0)))) || ((x14.RiseAt != 0)))))] (fun w' => Ext w94 w') ?_ ?_
                  · rcases Bool.eq_false_or_eq_true ((c80 || ((x14.Period != 0)))) with hg98 | hg98
                    ·
                      refine TL.gnu (j := 17) (t := 60) rfl rfl rfl hg98 rfl ?_
                      refine TL.gnu (j := 17) (t := 60) rfl rfl rfl hg98 rfl ?_
                      refine TL.gnu (j := 17) (t := 60) rfl rfl rfl hg98 rfl ?_
                      refine TL.yld rfl rfl (yld_or_t (b2 := (x14.RiseAt != 0)) rfl rfl hg98 rfl) ?_
                      exact TL.nil fun a h => ⟨h.weaken ⟨rfl, rfl, rfl, rfl, trivial⟩, Ext.refl _⟩
                    ·
                      refine TL.gy (j := 17) (t := 60) rfl rfl rfl hg98 rfl (yld_fieldAddr rfl fo_45_3 rfl) ?_
                      refine TL.gy (j := 17) (t := 60) rfl rfl rfl hg98 rfl (yld_load1 3 rfl ag_2 rfl (Box.cells hb45) rfl rfl) ?_
                      refine TL.gy (j := 17) (t := 60) rfl rfl rfl hg98 rfl (yld_neq rfl rfl rfl) ?_
                      refine TL.yld rfl rfl (yld_or_f rfl rfl hg98 rfl) ?_
                      exact TL.nil fun a h => ⟨h.weaken ⟨rfl, rfl, rfl, rfl, trivial⟩, Ext.refl _⟩
                  intro w99 hx100
                  have he101 : Ext w w99 := Ext.trans he96 hx100
                  have hb45 := Box.ext hb45 hx100
                  have hz102 := (hx100).size
                  refine TL.yld rfl rfl (yld_move rfl rfl) ?_
                  refine TL.cut 4 [(0, v1), (3, .int .i64 i5), (69, .bool ((((((c80 || ((x14.Period != 0)))) || ((x14.RiseAt != 0)))) || ((x14.FallAt != 0)))))] (fun w' => Ext w99 w') ?_ ?_
                  · rcases Bool.eq_false_or_eq_true ((((c80 || ((x14.Period != 0)))) || ((x14.RiseAt != 0)))) with hg103 | hg103
                    ·
                      refine TL.gnu (j := 22) (t := 65) rfl rfl rfl hg103 rfl ?_
                      refine TL.gnu (j := 22) (t := 65) rfl rfl rfl hg103 rfl ?_
                      refine TL.gnu (j := 22) (t := 65) rfl rfl rfl hg103 rfl ?_
                      refine TL.yld rfl rfl (yld_or_t (b2 := (x14.FallAt != 0)) rfl rfl hg103 rfl) ?_
                      exact TL.nil fun a h => ⟨h.weaken ⟨rfl, rfl, rfl, trivial⟩, Ext.refl _⟩
                    ·
                      refine TL.gy (j := 22) (t := 65) rfl rfl rfl hg103 rfl (yld_fieldAddr rfl fo_45_4 rfl) ?_
                      refine TL.gy (j := 22) (t := 65) rfl rfl rfl hg103 rfl (yld_load1 4 rfl ag_2 rfl (Box.cells hb45) rfl rfl) ?_
                      refine TL.gy (j := 22) (t := 65) rfl rfl rfl hg103 rfl (yld_neq rfl rfl rfl) ?_
                      refine TL.yld rfl rfl (yld_or_f rfl rfl hg103 rfl) ?_
                      exact TL.nil fun a h => ⟨h.weaken ⟨rfl, rfl, rfl, trivial⟩, Ext.refl _⟩
                  intro w104 hx105
                  have he106 : Ext w w104 := Ext.trans he101 hx105
                  have hb45 := Box.ext hb45 hx105
                  have hz107 := (hx105).size
                  refine TL.yld rfl rfl (yld_move rfl rfl) ?_
                  obtain ⟨c108, hb109, hF⟩ := bsome hF
                  refine TL.cut 6 [(0, v1), (3, .int .i64 i5), (76, .bool c108)] (fun w' => Ext w104 w') ?_ ?_
                  · rcases Bool.eq_false_or_eq_true ((((((c80 || ((x14.Period != 0)))) || ((x14.RiseAt != 0)))) || ((x14.FallAt != 0)))) with hg110 | hg110
                    ·
                      rw [hg110] at hb109; simp only [cond_true, cond_false] at hb109
                      refine TL.gnu (j := 27) (t := 70) rfl rfl rfl hg110 rfl ?_
                      refine TL.gnu (j := 27) (t := 70) rfl rfl rfl hg110 rfl ?_
                      refine TL.gnu (j := 27) (t := 70) rfl rfl rfl hg110 rfl ?_
                      refine TL.gnu (j := 27) (t := 70) rfl rfl rfl hg110 rfl ?_
                      refine TL.gnu (j := 27) (t := 70) rfl rfl rfl hg110 rfl ?_
                      obtain rfl := Option.some.inj hb109
                      refine TL.yld rfl rfl (yld_pick_t rfl rfl hg110 rfl) ?_
                      exact TL.nil fun a h => ⟨h.weaken ⟨rfl, rfl, rfl, trivial⟩, Ext.refl _⟩
                    ·
                      rw [hg110] at hb109; simp only [cond_true, cond_false] at hb109
                      replace hF := hb109
                      refine TL.gy (j := 27) (t := 70) rfl rfl rfl hg110 rfl (yld_move rfl rfl) ?_
                      refine TL.gy (j := 27) (t := 70) rfl rfl rfl hg110 rfl (yld_move rfl rfl) ?_
                      obtain ⟨r111, hr112, hF⟩ := bsome hF
                      refine TL.ge (j := 27) (t := 70) rfl rfl rfl hg110 rfl (eff_call rfl gf_48 rfl (W_spec_l14Of hr112 ((slRep.old ha2 he106 (Nat.le_refl _)).wide (Nat.le_refl _) (he106).size))) ?_
                      rintro _ w113 ⟨rfl, hx114⟩
                      have he115 : Ext w w113 := Ext.trans he106 hx114
                      have hb45 := Box.ext hb45 hx114
                      have hz116 := (hx114).size
                      refine TL.gy (j := 27) (t := 70) rfl rfl rfl hg110 rfl (yld_field1 rfl ft_60_0 ag_2 rfl rfl) ?_
                      refine TL.gy (j := 27) (t := 70) rfl rfl rfl hg110 rfl (yld_gtr rfl rfl rfl) ?_
                      obtain rfl := Option.some.inj hF
                      refine TL.yld rfl rfl (yld_pick_f rfl rfl hg110 rfl) ?_
                      exact TL.nil fun a h => ⟨h.weaken ⟨rfl, rfl, rfl, trivial⟩, hx114⟩
                  intro w117 hx118
                  have he119 : Ext w w117 := Ext.trans he106 hx118
                  have hb45 := Box.ext hb45 hx118
                  have hz120 := (hx118).size
                  refine TL.done ?_
                  refine NX.seq ?_
                  refine WC.cond rfl ?_ ?_
                  · intro hc121
                    replace hF := bif_t hc121 hF
                    refine WC.seq ?_
                    refine WC.region ?_
                    refine TL.yld rfl rfl (yld_assign rfl rfl) ?_
                    refine TL.done ?_
                    refine NX.seq ?_
                    refine WC.ret' ?_
                    refine NX.blk_r ?_
                    refine NX.then_r ?_
                    refine NX.then_r ?_
                    refine NX.blk_r ?_
                    refine NX.then_r ?_
                    obtain rfl := Option.some.inj hF
                    exact NX.end (rs := [.tmp 2]) (vs := [.bool false]) rfl ⟨rfl, trivial⟩ ⟨_, rfl, rfl, he119⟩
                  · intro hc122
                    replace hF := bif_f hc122 hF
                    refine WC.skip' ?_
                    refine NX.blk_n ?_
                    refine NX.seq ?_
                    refine WC.region ?_
                    refine TL.yld rfl rfl (yld_move rfl rfl) ?_
                    refine TL.yld rfl rfl (yld_add rfl rfl rfl) ?_
                    refine TL.yld rfl rfl (yld_assign rfl rfl) ?_
                    refine TL.done ?_
                    refine NX.then_n ?_
                    intro a hK; exact ⟨m6, Nat.lt_succ_self m6, (IntKind.wrap IntKind.i64 (i5 + 1)), hK.weaken ⟨rfl, rfl, trivial⟩, he119, (by omega), hF⟩
      · intro hc123
        replace hF := bif_f hc123 hF
        refine WC.exit' ?_
        refine NX.then_e ?_
        refine NX.then_e ?_
        refine NX.blk_hit ?_
        refine NX.seq ?_
        refine WC.seq ?_
        refine WC.region ?_
        refine TL.yld rfl rfl (yld_move rfl rfl) ?_
        refine TL.yld rfl rfl (ye_len (c := C_Clock) rfl Tryd.underlying25 rfl (slRep.old ha2 he11 (Nat.le_refl _))) ?_
        refine TL.yld rfl rfl (yld_leq rfl rfl rfl) ?_
        refine TL.yld rfl rfl (yld_assign rfl rfl) ?_
        refine TL.done ?_
        refine NX.seq ?_
        refine WC.ret' ?_
        obtain rfl := Option.some.inj hF
        exact NX.end (rs := [.tmp 2]) (vs := [.bool (decide ((a0_list.length : Int) ≤ 6))]) rfl ⟨rfl, trivial⟩ ⟨_, rfl, rfl, he11⟩

-- loop.example/g00861/spec.l14Code
def F_spec_l14Code (n : Nat) (a0_list : List S_Clock) (a1_k : Int) : Option Int := (Option.bind (F_spec_IsClocks n a0_list) fun r3 => (bif (!r3) then (some 1) else (Option.bind (F_spec_l01In n a1_k 0 (IntKind.wrap IntKind.i64 (((a0_list.length : Int)) - 1))) fun r11 => (bif (!r11) then (some 4) else (some 0)))))
set_option maxHeartbeats 40000000 in
theorem W_spec_l14Code {n : Nat} {a0_list : List S_Clock} {a1_k : Int} {r : Int} {w : World} {v1 : Value} (hF : F_spec_l14Code n a0_list a1_k = some r) (ha2 : slRep C_Clock w (Iv 0 w.heap.size) a0_list v1) :
    Calls Tryd.prog 53 [v1, .int .i64 a1_k].toArray w (Ret fun u w2 => u = .int .i64 r ∧ Ext w w2) := by
  refine calls_of Tryd.func53 rfl Tryd.ntmps53 ?_
  have he0 : Ext w w := Ext.refl w
  unfold F_spec_l14Code at hF
  refine WC.seq ?_
  refine WC.region ?_
  refine TL.yld rfl rfl (yld_assign rfl rfl) ?_
  refine TL.done ?_
  refine NX.seq ?_
  refine WC.seq ?_
  refine WC.seq ?_
  refine WC.region ?_
  refine TL.yld rfl rfl (yld_move rfl rfl) ?_
  obtain ⟨r3, hr4, hF⟩ := bsome hF
  refine TL.eff rfl rfl (eff_call rfl gf_16 rfl (W_spec_IsClocks hr4 ((slRep.old ha2 he0 (Nat.le_refl _)).wide (Nat.le_refl _) (he0).size))) ?_
  rintro _ w5 ⟨rfl, hx6⟩
  have he7 : Ext w w5 := Ext.trans he0 hx6
  have hz8 := (hx6).size
  refine TL.yld rfl rfl (yld_not rfl rfl) ?_
  refine TL.done ?_
  refine NX.seq ?_
  refine WC.cond rfl ?_ ?_
  · intro hc9
    replace hF := bif_t hc9 hF
    refine WC.seq ?_
    refine WC.region ?_
    refine TL.yld rfl rfl (yld_assign rfl rfl) ?_
    refine TL.done ?_
    refine NX.seq ?_
    refine WC.ret' ?_
    refine NX.then_r ?_
    obtain rfl := Option.some.inj hF
    exact NX.end (rs := [.tmp 4]) (vs := [.int .i64 1]) rfl ⟨rfl, trivial⟩ ⟨_, rfl, rfl, he7⟩
  · intro hc10
    replace hF := bif_f hc10 hF
    refine WC.skip' ?_
    refine NX.seq ?_
    refine WC.seq ?_
    refine WC.seq ?_
    refine WC.region ?_
    refine TL.yld rfl rfl (yld_move rfl rfl) ?_
    refine TL.yld rfl rfl (yld_move rfl rfl) ?_
    refine TL.yld rfl rfl (ye_len (c := C_Clock) rfl Tryd.underlying25 rfl (slRep.old ha2 he7 (Nat.le_refl _))) ?_
    refine TL.yld rfl rfl (yld_sub rfl rfl rfl) ?_
    obtain ⟨r11, hr12, hF⟩ := bsome hF
    refine TL.eff rfl rfl (eff_call rfl gf_47 rfl (W_spec_l01In hr12)) ?_
    rintro _ w13 ⟨rfl, hx14⟩
    have he15 : Ext w w13 := Ext.trans he7 hx14
    have hz16 := (hx14).size
    refine TL.yld rfl rfl (yld_not rfl rfl) ?_
    refine TL.done ?_
    refine NX.seq ?_
    refine WC.cond rfl ?_ ?_
    · intro hc17
      replace hF := bif_t hc17 hF
      refine WC.seq ?_
      refine WC.region ?_
      refine TL.yld rfl rfl (yld_assign rfl rfl) ?_
      refine TL.done ?_
      refine NX.seq ?_
      refine WC.ret' ?_
      refine NX.then_r ?_
      obtain rfl := Option.some.inj hF
      exact NX.end (rs := [.tmp 4]) (vs := [.int .i64 4]) rfl ⟨rfl, trivial⟩ ⟨_, rfl, rfl, he15⟩
    · intro hc18
      replace hF := bif_f hc18 hF
      refine WC.skip' ?_
      refine NX.seq ?_
      refine WC.seq ?_
      refine WC.region ?_
      refine TL.yld rfl rfl (yld_assign rfl rfl) ?_
      refine TL.done ?_
      refine NX.seq ?_
      refine WC.ret' ?_
      obtain rfl := Option.some.inj hF
      exact NX.end (rs := [.tmp 4]) (vs := [.int .i64 0]) rfl ⟨rfl, trivial⟩ ⟨_, rfl, rfl, he15⟩

-- loop.example/g00861/spec.l14Edge
def F_spec_l14Edge (n : Nat) (a0_w : S_l14Wave) (a1_edge : Int) : Option Int := (bif (a1_edge == 0) then (some a0_w.rise_) else (some a0_w.fall_))
set_option maxHeartbeats 40000000 in
theorem W_spec_l14Edge {n : Nat} {a0_w : S_l14Wave} {a1_edge : Int} {r : Int} {w : World} (hF : F_spec_l14Edge n a0_w a1_edge = some r) :
    Calls Tryd.prog 79 [.agg #[.int .i64 a0_w.period_, .int .i64 a0_w.rise_, .int .i64 a0_w.fall_], .int .i64 a1_edge].toArray w (Ret fun u w2 => u = .int .i64 r ∧ Ext w w2) := by
  refine calls_of Tryd.func79 rfl Tryd.ntmps79 ?_
  have he0 : Ext w w := Ext.refl w
  unfold F_spec_l14Edge at hF
  refine WC.seq ?_
  refine WC.region ?_
  refine TL.eff rfl rfl (eff_box rfl rfl) ?_
  rintro _ w2 ⟨b1, rfl, hn3⟩
  obtain ⟨hn3e, hn3s, hn3x, hb4⟩ := hn3
  have hb4 : Box w2 b1 [.int .i64 a0_w.period_, .int .i64 a0_w.rise_, .int .i64 a0_w.fall_] 60 := hb4
  have he6 : Ext w w2 := Ext.trans he0 hn3x
  have hz7 := (hn3x).size
  have hlo5 : w.heap.size ≤ b1 := by rw [hn3e]; exact (he0).size
  refine TL.yld rfl rfl (yld_assign rfl rfl) ?_
  refine TL.done ?_
  refine NX.seq ?_
  refine WC.seq ?_
  refine WC.seq ?_
  refine WC.region ?_
  refine TL.yld rfl rfl (yld_move rfl rfl) ?_
  refine TL.yld rfl rfl (yld_eql rfl rfl rfl) ?_
  refine TL.done ?_
  refine NX.seq ?_
  refine WC.cond rfl ?_ ?_
  · intro hc8
    replace hF := bif_t hc8 hF
    refine WC.seq ?_
    refine WC.region ?_
    refine TL.yld rfl rfl (yld_fieldAddr rfl fo_60_1 rfl) ?_
    refine TL.yld rfl rfl (yld_load1 1 rfl ag_2 rfl (Box.cells hb4) rfl rfl) ?_
    refine TL.yld rfl rfl (yld_assign rfl rfl) ?_
    refine TL.done ?_
    refine NX.seq ?_
    refine WC.ret' ?_
    refine NX.then_r ?_
    obtain rfl := Option.some.inj hF
    exact NX.end (rs := [.tmp 4]) (vs := [.int .i64 a0_w.rise_]) rfl ⟨rfl, trivial⟩ ⟨_, rfl, rfl, he6⟩
  · intro hc9
    replace hF := bif_f hc9 hF
    refine WC.skip' ?_
    refine NX.seq ?_
    refine WC.seq ?_
    refine WC.region ?_
    refine TL.yld rfl rfl (yld_fieldAddr rfl fo_60_2 rfl) ?_
    refine TL.yld rfl rfl (yld_load1 2 rfl ag_2 rfl (Box.cells hb4) rfl rfl) ?_
    refine TL.yld rfl rfl (yld_assign rfl rfl) ?_
    refine TL.done ?_
    refine NX.seq ?_
    refine WC.ret' ?_
    obtain rfl := Option.some.inj hF
    exact NX.end (rs := [.tmp 4]) (vs := [.int .i64 a0_w.fall_]) rfl ⟨rfl, trivial⟩ ⟨_, rfl, rfl, he6⟩

-- loop.example/g00861/spec.l14After
def F_spec_l14After (n : Nat) (a0_w : S_l14Wave) (a1_edge : Int) (a2_time : Int) : Option Int := (Option.bind (F_spec_l14Edge n a0_w a1_edge) fun r8 => (bif (a0_w.period_ == 0) then none else (bif (a0_w.period_ == 0) then none else (some (IntKind.wrap IntKind.i64 (a2_time + (Int.tmod (IntKind.wrap IntKind.i64 ((Int.tmod (IntKind.wrap IntKind.i64 (r8 - a2_time)) a0_w.period_) + a0_w.period_)) a0_w.period_)))))))
set_option maxHeartbeats 40000000 in
theorem W_spec_l14After {n : Nat} {a0_w : S_l14Wave} {a1_edge : Int} {a2_time : Int} {r : Int} {w : World} (hF : F_spec_l14After n a0_w a1_edge a2_time = some r) :
    Calls Tryd.prog 62 [.agg #[.int .i64 a0_w.period_, .int .i64 a0_w.rise_, .int .i64 a0_w.fall_], .int .i64 a1_edge, .int .i64 a2_time].toArray w (Ret fun u w2 => u = .int .i64 r ∧ Ext w w2) := by
  refine calls_of Tryd.func62 rfl Tryd.ntmps62 ?_
  have he0 : Ext w w := Ext.refl w
  unfold F_spec_l14After at hF
  refine WC.seq ?_
  refine WC.region ?_
  refine TL.eff rfl rfl (eff_box rfl rfl) ?_
  rintro _ w2 ⟨b1, rfl, hn3⟩
  obtain ⟨hn3e, hn3s, hn3x, hb4⟩ := hn3
  have hb4 : Box w2 b1 [.int .i64 a0_w.period_, .int .i64 a0_w.rise_, .int .i64 a0_w.fall_] 60 := hb4
  have he6 : Ext w w2 := Ext.trans he0 hn3x
  have hz7 := (hn3x).size
  have hlo5 : w.heap.size ≤ b1 := by rw [hn3e]; exact (he0).size
  refine TL.yld rfl rfl (yld_assign rfl rfl) ?_
  refine TL.done ?_
  refine NX.seq ?_
  refine WC.seq ?_
  refine WC.quiet Tryd.hm (by kernel_rfl) ?_
  refine QL.yld rfl rfl (Yld.qui (yld_move rfl rfl)) ?_
  refine QL.yld rfl rfl (Yld.qui (yld_loadN (us := [.int .i64 a0_w.period_, .int .i64 a0_w.rise_, .int .i64 a0_w.fall_]) rfl ag_60 rfl (Box.cells hb4) cn_60)) ?_
  refine QL.yld rfl rfl (Yld.qui (yld_move rfl rfl)) ?_
  obtain ⟨r8, hr9, hF⟩ := bsome hF
  refine QL.yld rfl rfl (qui_call rfl gf_79 rfl fun w' hw' => W_spec_l14Edge hr9) ?_
  refine QL.yld rfl rfl (Yld.qui (yld_move rfl rfl)) ?_
  refine QL.yld rfl rfl (Yld.qui (yld_sub rfl rfl rfl)) ?_
  refine QL.yld rfl rfl (Yld.qui (yld_fieldAddr rfl fo_60_0 rfl)) ?_
  refine QL.yld rfl rfl (Yld.qui (yld_load1 0 rfl ag_2 rfl (Box.cells hb4) rfl rfl)) ?_
  obtain ⟨hn10, hF⟩ := nzero hF
  refine QL.yld rfl rfl (Yld.qui (yld_rem rfl rfl rfl hn10)) ?_
  refine QL.yld rfl rfl (Yld.qui (yld_fieldAddr rfl fo_60_0 rfl)) ?_
  refine QL.yld rfl rfl (Yld.qui (yld_load1 0 rfl ag_2 rfl (Box.cells hb4) rfl rfl)) ?_
  refine QL.yld rfl rfl (Yld.qui (yld_add rfl rfl rfl)) ?_
  refine QL.yld rfl rfl (Yld.qui (yld_fieldAddr rfl fo_60_0 rfl)) ?_
  refine QL.yld rfl rfl (Yld.qui (yld_load1 0 rfl ag_2 rfl (Box.cells hb4) rfl rfl)) ?_
  obtain ⟨hn11, hF⟩ := nzero hF
  refine QL.yld rfl rfl (Yld.qui (yld_rem rfl rfl rfl hn11)) ?_
  refine QL.yld rfl rfl (Yld.qui (yld_add rfl rfl rfl)) ?_
  refine QL.yld rfl rfl (Yld.qui (yld_assign rfl rfl)) ?_
  refine QL.done fun w12 hx13 => ?_
  have he14 : Ext w w12 := Ext.trans he6 hx13
  have hb4 := Box.ext hb4 hx13
  have hz15 := (hx13).size
  refine NX.seq ?_
  refine WC.ret' ?_
  obtain rfl := Option.some.inj hF
  exact NX.end (rs := [.tmp 6]) (vs := [.int .i64 (IntKind.wrap IntKind.i64 (a2_time + (Int.tmod (IntKind.wrap IntKind.i64 ((Int.tmod (IntKind.wrap IntKind.i64 (r8 - a2_time)) a0_w.period_) + a0_w.period_)) a0_w.period_)))]) rfl ⟨rfl, trivial⟩ ⟨_, rfl, rfl, he14⟩

-- loop.example/g00861/spec.EdgesIn
def F_spec_EdgesIn_L1 (a4_to : Int) (r71 : S_l14Wave) (k0 : (List Int) → Int → Option ((List Int) × Int)) : Nat → (List Int) → Int → Option ((List Int) × Int)
  | 0 => fun _ _ => none
  | m + 1 => fun l110 i114 => (bif decide (i114 ≤ a4_to) then (bif (((l110.length : Int)) == 200) then (some (([] : List Int), 3)) else (Option.bind (appN l110 [i114] 8) fun z146 => (F_spec_EdgesIn_L1 a4_to r71 k0 m z146 (IntKind.wrap IntKind.i64 (i114 + r71.period_))))) else (k0 l110 i114))
theorem F_spec_EdgesIn_L1_z (a4_to : Int) (r71 : S_l14Wave) (k0 : (List Int) → Int → Option ((List Int) × Int)) (l110 : List Int) (i114 : Int) : F_spec_EdgesIn_L1 a4_to r71 k0 0 l110 i114 = none := rfl
theorem F_spec_EdgesIn_L1_s (m : Nat) (a4_to : Int) (r71 : S_l14Wave) (k0 : (List Int) → Int → Option ((List Int) × Int)) (l110 : List Int) (i114 : Int) : F_spec_EdgesIn_L1 a4_to r71 k0 (m + 1) l110 i114 = (bif decide (i114 ≤ a4_to) then (bif (((l110.length : Int)) == 200) then (some (([] : List Int), 3)) else (Option.bind (appN l110 [i114] 8) fun z146 => (F_spec_EdgesIn_L1 a4_to r71 k0 m z146 (IntKind.wrap IntKind.i64 (i114 + r71.period_))))) else (k0 l110 i114)) := rfl

def F_spec_EdgesIn (n : Nat) (a0_list : List S_Clock) (a1_k : Int) (a2_edge : Int) (a3_from : Int) (a4_to : Int) : Option ((List Int) × Int) := (Option.bind (F_spec_l14Code n a0_list a1_k) fun r3 => (bif (r3 != 0) then (some (([] : List Int), r3)) else (Option.bind (F_spec_l01In n a2_edge 0 1) fun r24 => (Option.bind (bif (!r24) then (some true) else (Option.bind (F_spec_l01In n a3_from (-1000000000) 1000000000) fun r30 => (some (!r30)))) fun c30 => (Option.bind (bif c30 then (some true) else (Option.bind (F_spec_l01In n a4_to (-1000000000) 1000000000) fun r43 => (some (!r43)))) fun c43 => (bif c43 then (some (([] : List Int), 2)) else (Option.bind (F_spec_l14Of n a0_list a1_k) fun r71 => (Option.bind (F_spec_l14After n r71 a2_edge a3_from) fun r102 => (F_spec_EdgesIn_L1 a4_to r71 (fun l110 i114 => (some (l110, 0))) n (([] : List Int)) r102)))))))))
set_option maxHeartbeats 40000000 in
theorem W_spec_EdgesIn {n : Nat} {a0_list : List S_Clock} {a1_k : Int} {a2_edge : Int} {a3_from : Int} {a4_to : Int} {r : (List Int) × Int} {w : World} {v1 : Value} (hF : F_spec_EdgesIn n a0_list a1_k a2_edge a3_from a4_to = some r) (ha2 : slRep C_Clock w (Iv 0 w.heap.size) a0_list v1) :
    Calls Tryd.prog 39 [v1, .int .i64 a1_k, .int .i64 a2_edge, .int .i64 a3_from, .int .i64 a4_to].toArray w (Ret fun u w2 => ∃ v0_0, u = .tuple #[v0_0, .int .i64 r.2] ∧ ownR (cInt .i64) w2 w.heap.size (Iv 0 0) 2 r.1 v0_0 ∧ Ext w w2) := by
  refine calls_of Tryd.func39 rfl Tryd.ntmps39 ?_
  have he0 : Ext w w := Ext.refl w
  unfold F_spec_EdgesIn at hF
  refine WC.seq ?_
  refine WC.region ?_
  refine TL.yld rfl rfl (yld_assign rfl rfl) ?_
  refine TL.yld rfl rfl (yld_assign rfl rfl) ?_
  refine TL.done ?_
  refine NX.seq ?_
  refine WC.seq ?_
  refine WC.seq ?_
  refine WC.region ?_
  refine TL.yld rfl rfl (yld_move rfl rfl) ?_
  refine TL.yld rfl rfl (yld_move rfl rfl) ?_
  obtain ⟨r3, hr4, hF⟩ := bsome hF
  refine TL.eff rfl rfl (eff_call rfl gf_53 rfl (W_spec_l14Code hr4 ((slRep.old ha2 he0 (Nat.le_refl _)).wide (Nat.le_refl _) (he0).size))) ?_
  rintro _ w5 ⟨rfl, hx6⟩
  have he7 : Ext w w5 := Ext.trans he0 hx6
  have hz8 := (hx6).size
  refine TL.yld rfl rfl (yld_assign rfl rfl) ?_
  refine TL.done ?_
  refine NX.seq ?_
  refine WC.seq ?_
  refine WC.region ?_
  refine TL.yld rfl rfl (yld_move rfl rfl) ?_
  refine TL.yld rfl rfl (yld_neq rfl rfl rfl) ?_
  refine TL.done ?_
  refine NX.seq ?_
  refine WC.cond rfl ?_ ?_
  · intro hc9
    replace hF := bif_t hc9 hF
    refine WC.seq ?_
    refine WC.region ?_
    refine TL.eff rfl rfl (eff_buildSlice (c := (cInt .i64)) (xs := ([] : List Int)) (S := (Iv 0 0)) (uss := []) (out := []) rfl Tryd.underlying46 in_2 rfl rfl (fillL_all [] rfl rfl rfl) rfl rfl rfl rfl (one_rep (uss := []) (show reps _ _ _ _ _ from trivial) rfl) (fun k h => by have := h.2; omega) rfl) ?_
    rintro v10 w11 ⟨g12, hv13, hg14, hz15, hx16, hs17⟩
    have he18 : Ext w w11 := Ext.trans he7 hx16
    have hz19 := (hx16).size
    have hlo20 : w.heap.size ≤ g12 := by rw [hg14]; exact (he7).size
    have hbd21 := bd_of hv13
    clear hv13
    refine TL.yld rfl rfl (yld_move rfl rfl) ?_
    refine TL.yld rfl rfl (yld_assign rfl rfl) ?_
    refine TL.yld rfl rfl (yld_assign rfl rfl) ?_
    refine TL.done ?_
    refine NX.seq ?_
    refine WC.ret' ?_
    refine NX.then_r ?_
    obtain rfl := Option.some.inj hF
    exact NX.end (rs := [.tmp 10, .tmp 11]) (vs := [v10, .int .i64 r3]) rfl ⟨rfl, rfl, trivial⟩ ⟨_, rfl, _, rfl, ownR.base hs17 (by omega), he18⟩
  · intro hc23
    replace hF := bif_f hc23 hF
    refine WC.skip' ?_
    refine NX.seq ?_
    refine WC.seq ?_
    refine WC.seq ?_
    refine WC.region ?_
    refine TL.yld rfl rfl (yld_move rfl rfl) ?_
    obtain ⟨r24, hr25, hF⟩ := bsome hF
    refine TL.eff rfl rfl (eff_call rfl gf_47 rfl (W_spec_l01In hr25)) ?_
    rintro _ w26 ⟨rfl, hx27⟩
    have he28 : Ext w w26 := Ext.trans he7 hx27
    have hz29 := (hx27).size
    refine TL.yld rfl rfl (yld_not rfl rfl) ?_
    refine TL.yld rfl rfl (yld_move rfl rfl) ?_
    obtain ⟨c30, hb31, hF⟩ := bsome hF
    refine TL.cut 4 [(0, v1), (1, .int .i64 a1_k), (2, .int .i64 a2_edge), (3, .int .i64 a3_from), (4, .int .i64 a4_to), (30, .bool c30)] (fun w' => Ext w26 w') ?_ ?_
    · rcases Bool.eq_false_or_eq_true (!r24) with hg32 | hg32
      ·
        rw [hg32] at hb31; simp only [cond_true, cond_false] at hb31
        refine TL.gnu (j := 3) (t := 26) rfl rfl rfl hg32 rfl ?_
        refine TL.gnu (j := 3) (t := 26) rfl rfl rfl hg32 rfl ?_
        refine TL.gnu (j := 3) (t := 26) rfl rfl rfl hg32 rfl ?_
        obtain rfl := Option.some.inj hb31
        refine TL.yld rfl rfl (yld_pick_t rfl rfl hg32 rfl) ?_
        exact TL.nil fun a h => ⟨h.weaken ⟨rfl, rfl, rfl, rfl, rfl, rfl, trivial⟩, Ext.refl _⟩
      ·
        rw [hg32] at hb31; simp only [cond_true, cond_false] at hb31
        replace hF := hb31
        refine TL.gy (j := 3) (t := 26) rfl rfl rfl hg32 rfl (yld_move rfl rfl) ?_
        obtain ⟨r33, hr34, hF⟩ := bsome hF
        refine TL.ge (j := 3) (t := 26) rfl rfl rfl hg32 rfl (eff_call rfl gf_47 rfl (W_spec_l01In hr34)) ?_
        rintro _ w35 ⟨rfl, hx36⟩
        have he37 : Ext w w35 := Ext.trans he28 hx36
        have hz38 := (hx36).size
        refine TL.gy (j := 3) (t := 26) rfl rfl rfl hg32 rfl (yld_not rfl rfl) ?_
        obtain rfl := Option.some.inj hF
        refine TL.yld rfl rfl (yld_pick_f rfl rfl hg32 rfl) ?_
        exact TL.nil fun a h => ⟨h.weaken ⟨rfl, rfl, rfl, rfl, rfl, rfl, trivial⟩, hx36⟩
    intro w39 hx40
    have he41 : Ext w w39 := Ext.trans he28 hx40
    have hz42 := (hx40).size
    refine TL.yld rfl rfl (yld_move rfl rfl) ?_
    obtain ⟨c43, hb44, hF⟩ := bsome hF
    refine TL.cut 4 [(0, v1), (1, .int .i64 a1_k), (2, .int .i64 a2_edge), (3, .int .i64 a3_from), (4, .int .i64 a4_to), (35, .bool c43)] (fun w' => Ext w39 w') ?_ ?_
    · rcases Bool.eq_false_or_eq_true c30 with hg45 | hg45
      ·
        rw [hg45] at hb44; simp only [cond_true, cond_false] at hb44
        refine TL.gnu (j := 8) (t := 31) rfl rfl rfl hg45 rfl ?_
        refine TL.gnu (j := 8) (t := 31) rfl rfl rfl hg45 rfl ?_
        refine TL.gnu (j := 8) (t := 31) rfl rfl rfl hg45 rfl ?_
        obtain rfl := Option.some.inj hb44
        refine TL.yld rfl rfl (yld_pick_t rfl rfl hg45 rfl) ?_
        exact TL.nil fun a h => ⟨h.weaken ⟨rfl, rfl, rfl, rfl, rfl, rfl, trivial⟩, Ext.refl _⟩
      ·
        rw [hg45] at hb44; simp only [cond_true, cond_false] at hb44
        replace hF := hb44
        refine TL.gy (j := 8) (t := 31) rfl rfl rfl hg45 rfl (yld_move rfl rfl) ?_
        obtain ⟨r46, hr47, hF⟩ := bsome hF
        refine TL.ge (j := 8) (t := 31) rfl rfl rfl hg45 rfl (eff_call rfl gf_47 rfl (W_spec_l01In hr47)) ?_
        rintro _ w48 ⟨rfl, hx49⟩
        have he50 : Ext w w48 := Ext.trans he41 hx49
        have hz51 := (hx49).size
        refine TL.gy (j := 8) (t := 31) rfl rfl rfl hg45 rfl (yld_not rfl rfl) ?_
        obtain rfl := Option.some.inj hF
        refine TL.yld rfl rfl (yld_pick_f rfl rfl hg45 rfl) ?_
        exact TL.nil fun a h => ⟨h.weaken ⟨rfl, rfl, rfl, rfl, rfl, rfl, trivial⟩, hx49⟩
    intro w52 hx53
    have he54 : Ext w w52 := Ext.trans he41 hx53
    have hz55 := (hx53).size
    refine TL.done ?_
    refine NX.seq ?_
    refine WC.cond rfl ?_ ?_
    · intro hc56
      replace hF := bif_t hc56 hF
      refine WC.seq ?_
      refine WC.region ?_
      refine TL.eff rfl rfl (eff_buildSlice (c := (cInt .i64)) (xs := ([] : List Int)) (S := (Iv 0 0)) (uss := []) (out := []) rfl Tryd.underlying46 in_2 rfl rfl (fillL_all [] rfl rfl rfl) rfl rfl rfl rfl (one_rep (uss := []) (show reps _ _ _ _ _ from trivial) rfl) (fun k h => by have := h.2; omega) rfl) ?_
      rintro v57 w58 ⟨g59, hv60, hg61, hz62, hx63, hs64⟩
      have he65 : Ext w w58 := Ext.trans he54 hx63
      have hz66 := (hx63).size
      have hlo67 : w.heap.size ≤ g59 := by rw [hg61]; exact (he54).size
      have hbd68 := bd_of hv60
      clear hv60
      refine TL.yld rfl rfl (yld_assign rfl rfl) ?_
      refine TL.yld rfl rfl (yld_assign rfl rfl) ?_
      refine TL.done ?_
      refine NX.seq ?_
      refine WC.ret' ?_
      refine NX.then_r ?_
      obtain rfl := Option.some.inj hF
      exact NX.end (rs := [.tmp 10, .tmp 11]) (vs := [v57, .int .i64 2]) rfl ⟨rfl, rfl, trivial⟩ ⟨_, rfl, _, rfl, ownR.base hs64 (by omega), he65⟩
    · intro hc70
      replace hF := bif_f hc70 hF
      refine WC.skip' ?_
      refine NX.seq ?_
      refine WC.seq ?_
      refine WC.region ?_
      refine TL.yld rfl rfl (yld_move rfl rfl) ?_
      refine TL.yld rfl rfl (yld_move rfl rfl) ?_
      obtain ⟨r71, hr72, hF⟩ := bsome hF
      refine TL.eff rfl rfl (eff_call rfl gf_48 rfl (W_spec_l14Of hr72 ((slRep.old ha2 he54 (Nat.le_refl _)).wide (Nat.le_refl _) (he54).size))) ?_
      rintro _ w73 ⟨rfl, hx74⟩
      have he75 : Ext w w73 := Ext.trans he54 hx74
      have hz76 := (hx74).size
      refine TL.eff rfl rfl (eff_alloc rfl zn_60) ?_
      rintro _ w78 ⟨b77, rfl, hn79⟩
      obtain ⟨hn79e, hn79s, hn79x, hb80⟩ := hn79
      have hb80 : Box w78 b77 [.int .i64 0, .int .i64 0, .int .i64 0] 60 := hb80
      have he82 : Ext w w78 := Ext.trans he75 hn79x
      have hz83 := (hn79x).size
      have hlo81 : w.heap.size ≤ b77 := by rw [hn79e]; exact (he75).size
      refine TL.eff rfl rfl (eff_store rfl rfl rfl hb80 cn_60 rfl rfl) ?_
      rintro _ w84 ⟨hu85, hb86⟩
      have he87 : Ext w w84 := Below.trans he82 (Upd.below hu85 (by omega))
      have hz88 := (hu85).size
      have hb80 : Box w84 b77 [.int .i64 r71.period_, .int .i64 r71.rise_, .int .i64 r71.fall_] 60 := hb86
      refine TL.done ?_
      refine NX.seq ?_
      refine WC.seq ?_
      refine WC.region ?_
      refine TL.eff rfl rfl (eff_buildSlice (c := (cInt .i64)) (xs := ([] : List Int)) (S := (Iv 0 0)) (uss := []) (out := []) rfl Tryd.underlying46 in_2 rfl rfl (fillL_all [] rfl rfl rfl) rfl rfl rfl rfl (one_rep (uss := []) (show reps _ _ _ _ _ from trivial) rfl) (fun k h => by have := h.2; omega) rfl) ?_
      rintro v89 w90 ⟨g91, hv92, hg93, hz94, hx95, hs96⟩
      have he97 : Ext w w90 := Ext.trans he87 hx95
      have hb80 := Box.ext hb80 hx95
      have hz98 := (hx95).size
      have hlo99 : w.heap.size ≤ g91 := by rw [hg93]; exact (he87).size
      have hbd100 := bd_of hv92
      clear hv92
      refine TL.yld rfl rfl (yld_assign rfl rfl) ?_
      refine TL.done ?_
      refine NX.seq ?_
      refine WC.seq ?_
      refine WC.seq ?_
      refine WC.region ?_
      refine TL.yld rfl rfl (yld_loadN (us := [.int .i64 r71.period_, .int .i64 r71.rise_, .int .i64 r71.fall_]) rfl ag_60 rfl (Box.cells hb80) cn_60) ?_
      refine TL.yld rfl rfl (yld_move rfl rfl) ?_
      refine TL.yld rfl rfl (yld_move rfl rfl) ?_
      obtain ⟨r102, hr103, hF⟩ := bsome hF
      refine TL.eff rfl rfl (eff_call rfl gf_62 rfl (W_spec_l14After hr103)) ?_
      rintro _ w104 ⟨rfl, hx105⟩
      have he106 : Ext w w104 := Ext.trans he97 hx105
      have hb80 := Box.ext hb80 hx105
      have hs96 := ownR.ext hs96 hx105
      have hz107 := (hx105).size
      refine TL.yld rfl rfl (yld_assign rfl rfl) ?_
      refine TL.done ?_
      refine NX.seq ?_
      refine WC.block ?_
      refine WC.loop (fun m117 a wl => ∃ (l110 : List Int) (v111 : Value) (i114 : Int), Kn 61 [(4, .int .i64 a4_to), (13, .pointer (some ⟨b77, 0, none⟩)), (14, v111), (15, .int .i64 i114)] a ∧ Ext w wl ∧ w104.heap.size ≤ wl.heap.size ∧ Box wl b77 [.int .i64 r71.period_, .int .i64 r71.rise_, .int .i64 r71.fall_] 60 ∧ ownR (cInt .i64) wl (g91) (Iv 0 0) 2 l110 v111 ∧ (∀ q, v111.ownBlock = some q → g91 ≤ q ∧ q < wl.heap.size) ∧ (∀ g, v111.ownBlock = some g → g ≠ b77) ∧ F_spec_EdgesIn_L1 a4_to r71 (fun l110 i114 => (some (l110, 0))) m117 l110 i114 = some r) n ?_ ?_
      · intro a hK; exact ⟨(([] : List Int)), v89, r102, hK.weaken ⟨rfl, rfl, rfl, rfl, trivial⟩, he106, Nat.le_refl _, hb80, hs96, (fun g hg => by have := hbd100 g hg; omega), (fun g hg => by have := hbd100 g hg; omega), hF⟩
      · rintro m117 a w108 ⟨l110, v111, i114, hK, he109, hz118, hb115, hs112, hbd113, hp116, hF⟩
        revert hK; revert a; refine (?_ : WC _ _ _ _ _ _)
        cases m117 with
        | zero => rw [F_spec_EdgesIn_L1_z] at hF; cases hF
        | succ m117 =>
          rw [F_spec_EdgesIn_L1_s] at hF
          refine WC.seq ?_
          refine WC.seq ?_
          refine WC.region ?_
          refine TL.yld rfl rfl (yld_move rfl rfl) ?_
          refine TL.yld rfl rfl (yld_move rfl rfl) ?_
          refine TL.yld rfl rfl (yld_leq rfl rfl rfl) ?_
          refine TL.done ?_
          refine NX.seq ?_
          refine WC.cond rfl ?_ ?_
          · intro hc119
            replace hF := bif_t hc119 hF
            refine WC.skip' ?_
            refine NX.seq ?_
            refine WC.seq ?_
            refine WC.block ?_
            refine WC.seq ?_
            refine WC.seq ?_
            refine WC.region ?_
            refine TL.yld rfl rfl (yld_move rfl rfl) ?_
            refine TL.yld rfl rfl (yld_len_own (c := (cInt .i64)) rfl Tryd.underlying46 rfl hs112) ?_
            refine TL.yld rfl rfl (yld_eql rfl rfl rfl) ?_
            refine TL.done ?_
            refine NX.seq ?_
            refine WC.cond rfl ?_ ?_
            · intro hc120
              replace hF := bif_t hc120 hF
              refine WC.seq ?_
              refine WC.region ?_
              refine TL.eff rfl rfl (eff_buildSlice (c := (cInt .i64)) (xs := ([] : List Int)) (S := (Iv 0 0)) (uss := []) (out := []) rfl Tryd.underlying46 in_2 rfl rfl (fillL_all [] rfl rfl rfl) rfl rfl rfl rfl (one_rep (uss := []) (show reps _ _ _ _ _ from trivial) rfl) (fun k h => by have := h.2; omega) rfl) ?_
              rintro v121 w122 ⟨g123, hv124, hg125, hz126, hx127, hs128⟩
              have he129 : Ext w w122 := Ext.trans he109 hx127
              have hb115 := Box.ext hb115 hx127
              have hs112 := ownR.ext hs112 hx127
              have hz130 := (hx127).size
              have hlo131 : w.heap.size ≤ g123 := by rw [hg125]; exact (he109).size
              have hbd132 := bd_of hv124
              clear hv124
              refine TL.yld rfl rfl (yld_assign rfl rfl) ?_
              refine TL.yld rfl rfl (yld_assign rfl rfl) ?_
              refine TL.done ?_
              refine NX.seq ?_
              refine WC.ret' ?_
              refine NX.then_r ?_
              refine NX.blk_r ?_
              refine NX.then_r ?_
              refine NX.then_r ?_
              refine NX.blk_r ?_
              refine NX.then_r ?_
              obtain rfl := Option.some.inj hF
              exact NX.end (rs := [.tmp 10, .tmp 11]) (vs := [v121, .int .i64 3]) rfl ⟨rfl, rfl, trivial⟩ ⟨_, rfl, _, rfl, ownR.base hs128 (by omega), he129⟩
            · intro hc134
              replace hF := bif_f hc134 hF
              refine WC.skip' ?_
              refine NX.seq ?_
              refine WC.region ?_
              refine TL.yld rfl rfl (yld_move rfl rfl) ?_
              refine TL.yld rfl rfl (yld_move rfl rfl) ?_
              refine TL.eff rfl rfl (eff_buildSlice (c := (cInt .i64)) (xs := [i114]) (S := (Iv 0 0)) (uss := [(0, [.int .i64 i114])]) (out := [.int .i64 i114]) rfl Tryd.underlying46 in_2 rfl rfl (fillL_all [[.int .i64 i114]] rfl rfl rfl) rfl rfl rfl rfl (one_rep (uss := [[.int .i64 i114]]) (show reps _ _ _ _ _ from ⟨rfl, trivial⟩) rfl) (fun k h => by have := h.2; omega) rfl) ?_
              rintro v135 w136 ⟨g137, hv138, hg139, hz140, hx141, hs142⟩
              have he143 : Ext w w136 := Ext.trans he109 hx141
              have hb115 := Box.ext hb115 hx141
              have hs112 := ownR.ext hs112 hx141
              have hz144 := (hx141).size
              have hlo145 : w.heap.size ≤ g137 := by rw [hg139]; exact (he109).size
              have hbd146 := bd_of hv138
              clear hv138
              obtain ⟨z148, ha149, hF⟩ := bsome hF
              refine TL.eff rfl rfl (eff_appendF (c := (cInt .i64)) rfl Tryd.underlying46 in_2 rfl rfl rfl rfl rfl hs112 (by omega) (ownR.slf hs142 (Nat.le_refl _) (Nat.le_refl _)) ha149) ?_
              rintro v150 w151 ⟨hs152, hgr153⟩
              have he155 : Ext w w151 := Below.trans he143 (Grew.low hgr153 (fun g hg => by have := hbd113 g hg; omega) (he143).size)
              have hp156 : ∀ g, v150.ownBlock = some g → g ≠ b77 := Grew.sepP (p := fun g => g ≠ b77) hgr153 hp116 (fun g hg => by omega)
              have hb115 := Grew.box hgr153 hb115 hp116
              have hp157 : ∀ g q, v111.ownBlock = some g → v135.ownBlock = some q → g ≠ q := (fun g q hg hq => by have := hbd113 g hg; have := hbd146 q hq; omega)
              have hp158 : ∀ g q, v150.ownBlock = some g → v135.ownBlock = some q → g ≠ q := fun g q hg hq => Grew.sepP (p := fun g => ∀ q, v135.ownBlock = some q → g ≠ q) hgr153 (fun g hg q hq => (hp157) g q hg hq) (fun g hg q hq => by have := hbd146 q hq; omega) g hg q hq
              have hs142 := Grew.ownF hgr153 hs142 hp157
              have hz159 := (hgr153).1.size
              have hbd160 : ∀ g, v150.ownBlock = some g → g91 ≤ g ∧ g < w151.heap.size := Grew.bd hgr153 hs152 (fun g hg => ⟨by have := hbd113 g hg; omega, (hbd113 g hg).2⟩) (by omega) (by omega)
              refine TL.yld rfl rfl (yld_assign rfl rfl) ?_
              refine TL.done ?_
              refine NX.blk_n ?_
              refine NX.seq ?_
              refine WC.region ?_
              refine TL.yld rfl rfl (yld_move rfl rfl) ?_
              refine TL.yld rfl rfl (yld_fieldAddr rfl fo_60_0 rfl) ?_
              refine TL.yld rfl rfl (yld_load1 0 rfl ag_2 rfl (Box.cells hb115) rfl rfl) ?_
              refine TL.yld rfl rfl (yld_add rfl rfl rfl) ?_
              refine TL.yld rfl rfl (yld_assign rfl rfl) ?_
              refine TL.done ?_
              refine NX.then_n ?_
              intro a hK; exact ⟨m117, Nat.lt_succ_self m117, z148, v150, (IntKind.wrap IntKind.i64 (i114 + r71.period_)), hK.weaken ⟨rfl, rfl, rfl, rfl, trivial⟩, he155, (by omega), hb115, hs152, (fun g hg => by have := hbd160 g hg; omega), hp156, hF⟩
          · intro hc161
            replace hF := bif_f hc161 hF
            refine WC.exit' ?_
            refine NX.then_e ?_
            refine NX.then_e ?_
            refine NX.blk_hit ?_
            refine NX.seq ?_
            refine WC.seq ?_
            refine WC.region ?_
            refine TL.yld rfl rfl (yld_move rfl rfl) ?_
            refine TL.yld rfl rfl (yld_assign rfl rfl) ?_
            refine TL.yld rfl rfl (yld_assign rfl rfl) ?_
            refine TL.done ?_
            refine NX.seq ?_
            refine WC.ret' ?_
            obtain rfl := Option.some.inj hF
            exact NX.end (rs := [.tmp 10, .tmp 11]) (vs := [v111, .int .i64 0]) rfl ⟨rfl, rfl, trivial⟩ ⟨_, rfl, _, rfl, ownR.base hs112 (by omega), he109⟩

-- loop.example/g00861/laws.eqInt64S
def F_laws_eqInt64S_L1 (a0_a : List Int) (a1_b : List Int) (k0 : Int → Option Bool) : Nat → Int → Option Bool
  | 0 => fun _ => none
  | m + 1 => fun i9 => (bif decide (i9 < (a0_a.length : Int)) then (Option.bind (getI a0_a i9) fun x11 => (Option.bind (getI a1_b i9) fun x19 => (bif (x11 != x19) then (some false) else (F_laws_eqInt64S_L1 a0_a a1_b k0 m (IntKind.wrap IntKind.i64 (i9 + 1)))))) else (k0 i9))
theorem F_laws_eqInt64S_L1_z (a0_a : List Int) (a1_b : List Int) (k0 : Int → Option Bool) (i9 : Int) : F_laws_eqInt64S_L1 a0_a a1_b k0 0 i9 = none := rfl
theorem F_laws_eqInt64S_L1_s (m : Nat) (a0_a : List Int) (a1_b : List Int) (k0 : Int → Option Bool) (i9 : Int) : F_laws_eqInt64S_L1 a0_a a1_b k0 (m + 1) i9 = (bif decide (i9 < (a0_a.length : Int)) then (Option.bind (getI a0_a i9) fun x11 => (Option.bind (getI a1_b i9) fun x19 => (bif (x11 != x19) then (some false) else (F_laws_eqInt64S_L1 a0_a a1_b k0 m (IntKind.wrap IntKind.i64 (i9 + 1)))))) else (k0 i9)) := rfl

def F_laws_eqInt64S (n : Nat) (a0_a : List Int) (a1_b : List Int) : Option Bool := (bif (((a0_a.length : Int)) != ((a1_b.length : Int))) then (some false) else (F_laws_eqInt64S_L1 a0_a a1_b (fun i9 => (some true)) n 0))
set_option maxHeartbeats 40000000 in
theorem W_laws_eqInt64S {n : Nat} {a0_a : List Int} {a1_b : List Int} {r : Bool} {w : World} {v1 : Value} {v3 : Value} (hF : F_laws_eqInt64S n a0_a a1_b = some r) (ha2 : slRep (cInt .i64) w (Iv 0 w.heap.size) a0_a v1) (ha4 : slRep (cInt .i64) w (Iv 0 w.heap.size) a1_b v3) :
    Calls Tryd.prog 40 [v1, v3].toArray w (Ret fun u w2 => u = .bool r ∧ Ext w w2) := by
  refine calls_of Tryd.func40 rfl Tryd.ntmps40 ?_
  have he0 : Ext w w := Ext.refl w
  unfold F_laws_eqInt64S at hF
  refine WC.seq ?_
  refine WC.region ?_
  refine TL.yld rfl rfl (yld_assign rfl rfl) ?_
  refine TL.done ?_
  refine NX.seq ?_
  refine WC.seq ?_
  refine WC.seq ?_
  refine WC.region ?_
  refine TL.yld rfl rfl (yld_move rfl rfl) ?_
  refine TL.yld rfl rfl (ye_len (c := (cInt .i64)) rfl Tryd.underlying46 rfl (slRep.old ha2 he0 (Nat.le_refl _))) ?_
  refine TL.yld rfl rfl (yld_move rfl rfl) ?_
  refine TL.yld rfl rfl (ye_len (c := (cInt .i64)) rfl Tryd.underlying46 rfl (slRep.old ha4 he0 (Nat.le_refl _))) ?_
  refine TL.yld rfl rfl (yld_neq rfl rfl rfl) ?_
  refine TL.done ?_
  refine NX.seq ?_
  refine WC.cond rfl ?_ ?_
  · intro hc5
    replace hF := bif_t hc5 hF
    refine WC.seq ?_
    refine WC.region ?_
    refine TL.yld rfl rfl (yld_assign rfl rfl) ?_
    refine TL.done ?_
    refine NX.seq ?_
    refine WC.ret' ?_
    refine NX.then_r ?_
    obtain rfl := Option.some.inj hF
    exact NX.end (rs := [.tmp 4]) (vs := [.bool false]) rfl ⟨rfl, trivial⟩ ⟨_, rfl, rfl, he0⟩
  · intro hc6
    replace hF := bif_f hc6 hF
    refine WC.skip' ?_
    refine NX.seq ?_
    refine WC.seq ?_
    refine WC.seq ?_
    refine WC.region ?_
    refine TL.yld rfl rfl (yld_assign rfl rfl) ?_
    refine TL.done ?_
    refine NX.seq ?_
    refine WC.block ?_
    refine WC.loop (fun m10 a wl => ∃ (i9 : Int), Kn 26 [(0, v1), (1, v3), (5, .int .i64 i9)] a ∧ Ext w wl ∧ w.heap.size ≤ wl.heap.size ∧ F_laws_eqInt64S_L1 a0_a a1_b (fun i9 => (some true)) m10 i9 = some r) n ?_ ?_
    · intro a hK; exact ⟨0, hK.weaken ⟨rfl, rfl, rfl, trivial⟩, he0, Nat.le_refl _, hF⟩
    · rintro m10 a w7 ⟨i9, hK, he8, hz11, hF⟩
      revert hK; revert a; refine (?_ : WC _ _ _ _ _ _)
      cases m10 with
      | zero => rw [F_laws_eqInt64S_L1_z] at hF; cases hF
      | succ m10 =>
        rw [F_laws_eqInt64S_L1_s] at hF
        refine WC.seq ?_
        refine WC.seq ?_
        refine WC.region ?_
        refine TL.yld rfl rfl (yld_move rfl rfl) ?_
        refine TL.yld rfl rfl (yld_move rfl rfl) ?_
        refine TL.yld rfl rfl (ye_len (c := (cInt .i64)) rfl Tryd.underlying46 rfl (slRep.old ha2 he8 (Nat.le_refl _))) ?_
        refine TL.yld rfl rfl (yld_lss rfl rfl rfl) ?_
        refine TL.done ?_
        refine NX.seq ?_
        refine WC.cond rfl ?_ ?_
        · intro hc12
          replace hF := bif_t hc12 hF
          refine WC.skip' ?_
          refine NX.seq ?_
          refine WC.seq ?_
          refine WC.block ?_
          refine WC.seq ?_
          refine WC.quiet Tryd.hm (by kernel_rfl) ?_
          refine QL.yld rfl rfl (Yld.qui (yld_move rfl rfl)) ?_
          refine QL.yld rfl rfl (Yld.qui (yld_move rfl rfl)) ?_
          obtain ⟨x13, hy14, hF⟩ := bsome hF
          refine QL.ye rfl rfl (ye_index (c := (cInt .i64)) rfl Tryd.underlying46 cn_2 rfl rfl (slRep.old ha2 he8 (Nat.le_refl _)) hy14) ?_
          rintro _ ⟨b15, o16, us17, rfl, hib20, hr18, hcl19⟩
          have hib20 : 0 ≤ b15 ∧ b15 < w.heap.size := ⟨hib20.1, by have := hib20.2; omega⟩
          obtain rfl := hr18
          refine QL.yld rfl rfl (Yld.qui (yld_load1 0 rfl ag_2 rfl hcl19 rfl rfl)) ?_
          refine QL.yld rfl rfl (Yld.qui (yld_move rfl rfl)) ?_
          refine QL.yld rfl rfl (Yld.qui (yld_move rfl rfl)) ?_
          obtain ⟨x21, hy22, hF⟩ := bsome hF
          refine QL.ye rfl rfl (ye_index (c := (cInt .i64)) rfl Tryd.underlying46 cn_2 rfl rfl (slRep.old ha4 he8 (Nat.le_refl _)) hy22) ?_
          rintro _ ⟨b23, o24, us25, rfl, hib28, hr26, hcl27⟩
          have hib28 : 0 ≤ b23 ∧ b23 < w.heap.size := ⟨hib28.1, by have := hib28.2; omega⟩
          obtain rfl := hr26
          refine QL.yld rfl rfl (Yld.qui (yld_load1 0 rfl ag_2 rfl hcl27 rfl rfl)) ?_
          refine QL.yld rfl rfl (Yld.qui (yld_neq rfl rfl rfl)) ?_
          refine QL.done fun w29 hx30 => ?_
          have he31 : Ext w w29 := Ext.trans he8 hx30
          have hz32 := (hx30).size
          refine NX.seq ?_
          refine WC.cond rfl ?_ ?_
          · intro hc33
            replace hF := bif_t hc33 hF
            refine WC.seq ?_
            refine WC.region ?_
            refine TL.yld rfl rfl (yld_assign rfl rfl) ?_
            refine TL.done ?_
            refine NX.seq ?_
            refine WC.ret' ?_
            refine NX.blk_r ?_
            refine NX.then_r ?_
            refine NX.then_r ?_
            refine NX.blk_r ?_
            refine NX.then_r ?_
            obtain rfl := Option.some.inj hF
            exact NX.end (rs := [.tmp 4]) (vs := [.bool false]) rfl ⟨rfl, trivial⟩ ⟨_, rfl, rfl, he31⟩
          · intro hc34
            replace hF := bif_f hc34 hF
            refine WC.skip' ?_
            refine NX.blk_n ?_
            refine NX.seq ?_
            refine WC.region ?_
            refine TL.yld rfl rfl (yld_move rfl rfl) ?_
            refine TL.yld rfl rfl (yld_add rfl rfl rfl) ?_
            refine TL.yld rfl rfl (yld_assign rfl rfl) ?_
            refine TL.done ?_
            refine NX.then_n ?_
            intro a hK; exact ⟨m10, Nat.lt_succ_self m10, (IntKind.wrap IntKind.i64 (i9 + 1)), hK.weaken ⟨rfl, rfl, rfl, trivial⟩, he31, (by omega), hF⟩
        · intro hc35
          replace hF := bif_f hc35 hF
          refine WC.exit' ?_
          refine NX.then_e ?_
          refine NX.then_e ?_
          refine NX.blk_hit ?_
          refine NX.seq ?_
          refine WC.seq ?_
          refine WC.region ?_
          refine TL.yld rfl rfl (yld_assign rfl rfl) ?_
          refine TL.done ?_
          refine NX.seq ?_
          refine WC.ret' ?_
          obtain rfl := Option.some.inj hF
          exact NX.end (rs := [.tmp 4]) (vs := [.bool true]) rfl ⟨rfl, trivial⟩ ⟨_, rfl, rfl, he8⟩

-- loop.example/g00861/laws.markText
def F_laws_markText_L1 (k0 : Int → ByteArray → Option ByteArray) : Nat → Int → ByteArray → Option ByteArray
  | 0 => fun _ _ => none
  | m + 1 => fun i5 t6 => (bif decide (i5 > 0) then (Option.bind (catS ((strB ([IntKind.wrap IntKind.u8 (IntKind.wrap IntKind.i64 (48 + (Int.tmod i5 10)))]))) t6) fun t21 => (F_laws_markText_L1 k0 m (IntKind.wrap IntKind.i64 (Int.tdiv i5 10)) t21)) else (k0 i5 t6))
theorem F_laws_markText_L1_z (k0 : Int → ByteArray → Option ByteArray) (i5 : Int) (t6 : ByteArray) : F_laws_markText_L1 k0 0 i5 t6 = none := rfl
theorem F_laws_markText_L1_s (m : Nat) (k0 : Int → ByteArray → Option ByteArray) (i5 : Int) (t6 : ByteArray) : F_laws_markText_L1 k0 (m + 1) i5 t6 = (bif decide (i5 > 0) then (Option.bind (catS ((strB ([IntKind.wrap IntKind.u8 (IntKind.wrap IntKind.i64 (48 + (Int.tmod i5 10)))]))) t6) fun t21 => (F_laws_markText_L1 k0 m (IntKind.wrap IntKind.i64 (Int.tdiv i5 10)) t21)) else (k0 i5 t6)) := rfl

def F_laws_markText (n : Nat) (a0_k : Int) : Option ByteArray := (bif decide (a0_k ≤ 0) then (some ((ByteArray.mk #[109, 48]))) else (F_laws_markText_L1 (fun i5 t6 => (Option.bind (catS ((ByteArray.mk #[109])) t6) fun t7 => (some t7))) n a0_k ((ByteArray.mk #[]))))
set_option maxHeartbeats 40000000 in
theorem W_laws_markText {n : Nat} {a0_k : Int} {r : ByteArray} {w : World} (hF : F_laws_markText n a0_k = some r) :
    Calls Tryd.prog 70 [.int .i64 a0_k].toArray w (Ret fun u w2 => u = .string r ∧ Ext w w2) := by
  refine calls_of Tryd.func70 rfl Tryd.ntmps70 ?_
  have he0 : Ext w w := Ext.refl w
  unfold F_laws_markText at hF
  refine WC.seq ?_
  refine WC.region ?_
  refine TL.yld rfl rfl (yld_assign rfl rfl) ?_
  refine TL.done ?_
  refine NX.seq ?_
  refine WC.seq ?_
  refine WC.seq ?_
  refine WC.region ?_
  refine TL.yld rfl rfl (yld_move rfl rfl) ?_
  refine TL.yld rfl rfl (yld_leq rfl rfl rfl) ?_
  refine TL.done ?_
  refine NX.seq ?_
  refine WC.cond rfl ?_ ?_
  · intro hc1
    replace hF := bif_t hc1 hF
    refine WC.seq ?_
    refine WC.region ?_
    refine TL.yld rfl rfl (yld_assign rfl rfl) ?_
    refine TL.done ?_
    refine NX.seq ?_
    refine WC.ret' ?_
    refine NX.then_r ?_
    obtain rfl := Option.some.inj hF
    exact NX.end (rs := [.tmp 2]) (vs := [.string ((ByteArray.mk #[109, 48]))]) rfl ⟨rfl, trivial⟩ ⟨_, rfl, rfl, he0⟩
  · intro hc2
    replace hF := bif_f hc2 hF
    refine WC.skip' ?_
    refine NX.seq ?_
    refine WC.seq ?_
    refine WC.region ?_
    refine TL.yld rfl rfl (yld_assign rfl rfl) ?_
    refine TL.done ?_
    refine NX.seq ?_
    refine WC.seq ?_
    refine WC.block ?_
    refine WC.loop (fun m7 a wl => ∃ (i5 : Int) (t6 : ByteArray), Kn 20 [(0, .int .i64 i5), (3, .string t6)] a ∧ Ext w wl ∧ w.heap.size ≤ wl.heap.size ∧ F_laws_markText_L1 (fun i5 t6 => (Option.bind (catS ((ByteArray.mk #[109])) t6) fun t7 => (some t7))) m7 i5 t6 = some r) n ?_ ?_
    · intro a hK; exact ⟨a0_k, ((ByteArray.mk #[])), hK.weaken ⟨rfl, rfl, trivial⟩, he0, Nat.le_refl _, hF⟩
    · rintro m7 a w3 ⟨i5, t6, hK, he4, hz8, hF⟩
      revert hK; revert a; refine (?_ : WC _ _ _ _ _ _)
      cases m7 with
      | zero => rw [F_laws_markText_L1_z] at hF; cases hF
      | succ m7 =>
        rw [F_laws_markText_L1_s] at hF
        refine WC.seq ?_
        refine WC.seq ?_
        refine WC.region ?_
        refine TL.yld rfl rfl (yld_move rfl rfl) ?_
        refine TL.yld rfl rfl (yld_gtr rfl rfl rfl) ?_
        refine TL.done ?_
        refine NX.seq ?_
        refine WC.cond rfl ?_ ?_
        · intro hc9
          replace hF := bif_t hc9 hF
          refine WC.skip' ?_
          refine NX.seq ?_
          refine WC.block ?_
          refine WC.seq ?_
          refine WC.region ?_
          refine TL.yld rfl rfl (yld_move rfl rfl) ?_
          refine TL.yld rfl rfl (yld_rem rfl rfl rfl (by decide)) ?_
          refine TL.yld rfl rfl (yld_add rfl rfl rfl) ?_
          refine TL.yld rfl rfl (yld_conv rfl Tryd.underlying3 Tryd.underlying5 rfl) ?_
          refine TL.eff rfl rfl (eff_buildSlice (c := (cInt .u8)) (xs := [IntKind.wrap IntKind.u8 (IntKind.wrap IntKind.i64 (48 + (Int.tmod i5 10)))]) (S := (Iv 0 0)) (uss := [(0, [.int .u8 (IntKind.wrap IntKind.u8 (IntKind.wrap IntKind.i64 (48 + (Int.tmod i5 10))))])]) (out := [.int .u8 (IntKind.wrap IntKind.u8 (IntKind.wrap IntKind.i64 (48 + (Int.tmod i5 10))))]) rfl Tryd.underlying32 in_5 rfl rfl (fillL_all [[.int .u8 (IntKind.wrap IntKind.u8 (IntKind.wrap IntKind.i64 (48 + (Int.tmod i5 10))))]] rfl rfl rfl) rfl rfl rfl rfl (one_rep (uss := [[.int .u8 (IntKind.wrap IntKind.u8 (IntKind.wrap IntKind.i64 (48 + (Int.tmod i5 10))))]]) (show reps _ _ _ _ _ from ⟨rfl, trivial⟩) rfl) (fun k h => by have := h.2; omega) rfl) ?_
          rintro v10 w11 ⟨g12, hv13, hg14, hz15, hx16, hs17⟩
          have he18 : Ext w w11 := Ext.trans he4 hx16
          have hz19 := (hx16).size
          have hlo20 : w.heap.size ≤ g12 := by rw [hg14]; exact (he4).size
          have hbd21 := bd_of hv13
          clear hv13
          refine TL.yld rfl rfl (yld_bytes rfl Tryd.underlying32 Tryd.underlying5 Tryd.underlying9 rfl (ownR.slf hs17 (Nat.le_refl _) (Nat.le_refl _))) ?_
          refine TL.yld rfl rfl (yld_move rfl rfl) ?_
          obtain ⟨t23, ht24, hF⟩ := bsome hF
          refine TL.yld rfl rfl (yld_cat rfl rfl rfl ht24) ?_
          refine TL.yld rfl rfl (yld_assign rfl rfl) ?_
          refine TL.done ?_
          refine NX.seq ?_
          refine WC.region ?_
          refine TL.yld rfl rfl (yld_move rfl rfl) ?_
          refine TL.yld rfl rfl (yld_quo rfl rfl rfl (by decide)) ?_
          refine TL.yld rfl rfl (yld_assign rfl rfl) ?_
          refine TL.done ?_
          refine NX.blk_n ?_
          refine NX.then_n ?_
          intro a hK; exact ⟨m7, Nat.lt_succ_self m7, (IntKind.wrap IntKind.i64 (Int.tdiv i5 10)), t23, hK.weaken ⟨rfl, rfl, trivial⟩, he18, (by omega), hF⟩
        · intro hc25
          replace hF := bif_f hc25 hF
          refine WC.exit' ?_
          refine NX.then_e ?_
          refine NX.then_e ?_
          refine NX.blk_hit ?_
          refine NX.seq ?_
          refine WC.seq ?_
          refine WC.region ?_
          refine TL.yld rfl rfl (yld_move rfl rfl) ?_
          obtain ⟨t26, ht27, hF⟩ := bsome hF
          refine TL.yld rfl rfl (yld_cat rfl rfl rfl ht27) ?_
          refine TL.yld rfl rfl (yld_assign rfl rfl) ?_
          refine TL.done ?_
          refine NX.seq ?_
          refine WC.ret' ?_
          obtain rfl := Option.some.inj hF
          exact NX.end (rs := [.tmp 2]) (vs := [.string t26]) rfl ⟨rfl, trivial⟩ ⟨_, rfl, rfl, he4⟩

-- loop.example/g00861/laws.markClockS
def F_laws_markClockS_L1 (n : Nat) (k0 : Int → Int → (List S_Clock) → Option (Int × (List S_Clock))) : Nat → Int → Int → (List S_Clock) → Option (Int × (List S_Clock))
  | 0 => fun _ _ _ => none
  | m + 1 => fun i8 i9 l10 => (bif decide (i9 < (l10.length : Int)) then (Option.bind (F_laws_markText n i8) fun r13 => (Option.bind (getI l10 i9) fun x19 => (Option.bind (getI ((l10.set (i9).toNat ((S_Clock.mk r13 x19.Place x19.Period x19.RiseAt x19.FallAt x19.Source x19.Divide x19.Invert x19.EarlyLatency x19.LateLatency x19.Uncertainty)))) i9) fun x31 => (Option.bind (getI ((((l10.set (i9).toNat ((S_Clock.mk r13 x19.Place x19.Period x19.RiseAt x19.FallAt x19.Source x19.Divide x19.Invert x19.EarlyLatency x19.LateLatency x19.Uncertainty)))).set (i9).toNat ((S_Clock.mk x31.Name (IntKind.wrap IntKind.i64 (i8 + 1)) x31.Period x31.RiseAt x31.FallAt x31.Source x31.Divide x31.Invert x31.EarlyLatency x31.LateLatency x31.Uncertainty)))) i9) fun x43 => (Option.bind (getI ((((((l10.set (i9).toNat ((S_Clock.mk r13 x19.Place x19.Period x19.RiseAt x19.FallAt x19.Source x19.Divide x19.Invert x19.EarlyLatency x19.LateLatency x19.Uncertainty)))).set (i9).toNat ((S_Clock.mk x31.Name (IntKind.wrap IntKind.i64 (i8 + 1)) x31.Period x31.RiseAt x31.FallAt x31.Source x31.Divide x31.Invert x31.EarlyLatency x31.LateLatency x31.Uncertainty)))).set (i9).toNat ((S_Clock.mk x43.Name x43.Place (IntKind.wrap IntKind.i64 ((IntKind.wrap IntKind.i64 (i8 + 1)) + 1)) x43.RiseAt x43.FallAt x43.Source x43.Divide x43.Invert x43.EarlyLatency x43.LateLatency x43.Uncertainty)))) i9) fun x55 => (Option.bind (getI ((((((((l10.set (i9).toNat ((S_Clock.mk r13 x19.Place x19.Period x19.RiseAt x19.FallAt x19.Source x19.Divide x19.Invert x19.EarlyLatency x19.LateLatency x19.Uncertainty)))).set (i9).toNat ((S_Clock.mk x31.Name (IntKind.wrap IntKind.i64 (i8 + 1)) x31.Period x31.RiseAt x31.FallAt x31.Source x31.Divide x31.Invert x31.EarlyLatency x31.LateLatency x31.Uncertainty)))).set (i9).toNat ((S_Clock.mk x43.Name x43.Place (IntKind.wrap IntKind.i64 ((IntKind.wrap IntKind.i64 (i8 + 1)) + 1)) x43.RiseAt x43.FallAt x43.Source x43.Divide x43.Invert x43.EarlyLatency x43.LateLatency x43.Uncertainty)))).set (i9).toNat ((S_Clock.mk x55.Name x55.Place x55.Period (IntKind.wrap IntKind.i64 ((IntKind.wrap IntKind.i64 ((IntKind.wrap IntKind.i64 (i8 + 1)) + 1)) + 1)) x55.FallAt x55.Source x55.Divide x55.Invert x55.EarlyLatency x55.LateLatency x55.Uncertainty)))) i9) fun x67 => (Option.bind (getI ((((((((((l10.set (i9).toNat ((S_Clock.mk r13 x19.Place x19.Period x19.RiseAt x19.FallAt x19.Source x19.Divide x19.Invert x19.EarlyLatency x19.LateLatency x19.Uncertainty)))).set (i9).toNat ((S_Clock.mk x31.Name (IntKind.wrap IntKind.i64 (i8 + 1)) x31.Period x31.RiseAt x31.FallAt x31.Source x31.Divide x31.Invert x31.EarlyLatency x31.LateLatency x31.Uncertainty)))).set (i9).toNat ((S_Clock.mk x43.Name x43.Place (IntKind.wrap IntKind.i64 ((IntKind.wrap IntKind.i64 (i8 + 1)) + 1)) x43.RiseAt x43.FallAt x43.Source x43.Divide x43.Invert x43.EarlyLatency x43.LateLatency x43.Uncertainty)))).set (i9).toNat ((S_Clock.mk x55.Name x55.Place x55.Period (IntKind.wrap IntKind.i64 ((IntKind.wrap IntKind.i64 ((IntKind.wrap IntKind.i64 (i8 + 1)) + 1)) + 1)) x55.FallAt x55.Source x55.Divide x55.Invert x55.EarlyLatency x55.LateLatency x55.Uncertainty)))).set (i9).toNat ((S_Clock.mk x67.Name x67.Place x67.Period x67.RiseAt (IntKind.wrap IntKind.i64 ((IntKind.wrap IntKind.i64 ((IntKind.wrap IntKind.i64 ((IntKind.wrap IntKind.i64 (i8 + 1)) + 1)) + 1)) + 1)) x67.Source x67.Divide x67.Invert x67.EarlyLatency x67.LateLatency x67.Uncertainty)))) i9) fun x79 => (Option.bind (getI ((((((((((((l10.set (i9).toNat ((S_Clock.mk r13 x19.Place x19.Period x19.RiseAt x19.FallAt x19.Source x19.Divide x19.Invert x19.EarlyLatency x19.LateLatency x19.Uncertainty)))).set (i9).toNat ((S_Clock.mk x31.Name (IntKind.wrap IntKind.i64 (i8 + 1)) x31.Period x31.RiseAt x31.FallAt x31.Source x31.Divide x31.Invert x31.EarlyLatency x31.LateLatency x31.Uncertainty)))).set (i9).toNat ((S_Clock.mk x43.Name x43.Place (IntKind.wrap IntKind.i64 ((IntKind.wrap IntKind.i64 (i8 + 1)) + 1)) x43.RiseAt x43.FallAt x43.Source x43.Divide x43.Invert x43.EarlyLatency x43.LateLatency x43.Uncertainty)))).set (i9).toNat ((S_Clock.mk x55.Name x55.Place x55.Period (IntKind.wrap IntKind.i64 ((IntKind.wrap IntKind.i64 ((IntKind.wrap IntKind.i64 (i8 + 1)) + 1)) + 1)) x55.FallAt x55.Source x55.Divide x55.Invert x55.EarlyLatency x55.LateLatency x55.Uncertainty)))).set (i9).toNat ((S_Clock.mk x67.Name x67.Place x67.Period x67.RiseAt (IntKind.wrap IntKind.i64 ((IntKind.wrap IntKind.i64 ((IntKind.wrap IntKind.i64 ((IntKind.wrap IntKind.i64 (i8 + 1)) + 1)) + 1)) + 1)) x67.Source x67.Divide x67.Invert x67.EarlyLatency x67.LateLatency x67.Uncertainty)))).set (i9).toNat ((S_Clock.mk x79.Name x79.Place x79.Period x79.RiseAt x79.FallAt (IntKind.wrap IntKind.i64 ((IntKind.wrap IntKind.i64 ((IntKind.wrap IntKind.i64 ((IntKind.wrap IntKind.i64 ((IntKind.wrap IntKind.i64 (i8 + 1)) + 1)) + 1)) + 1)) + 1)) x79.Divide x79.Invert x79.EarlyLatency x79.LateLatency x79.Uncertainty)))) i9) fun x91 => (Option.bind (getI ((((((((((((((l10.set (i9).toNat ((S_Clock.mk r13 x19.Place x19.Period x19.RiseAt x19.FallAt x19.Source x19.Divide x19.Invert x19.EarlyLatency x19.LateLatency x19.Uncertainty)))).set (i9).toNat ((S_Clock.mk x31.Name (IntKind.wrap IntKind.i64 (i8 + 1)) x31.Period x31.RiseAt x31.FallAt x31.Source x31.Divide x31.Invert x31.EarlyLatency x31.LateLatency x31.Uncertainty)))).set (i9).toNat ((S_Clock.mk x43.Name x43.Place (IntKind.wrap IntKind.i64 ((IntKind.wrap IntKind.i64 (i8 + 1)) + 1)) x43.RiseAt x43.FallAt x43.Source x43.Divide x43.Invert x43.EarlyLatency x43.LateLatency x43.Uncertainty)))).set (i9).toNat ((S_Clock.mk x55.Name x55.Place x55.Period (IntKind.wrap IntKind.i64 ((IntKind.wrap IntKind.i64 ((IntKind.wrap IntKind.i64 (i8 + 1)) + 1)) + 1)) x55.FallAt x55.Source x55.Divide x55.Invert x55.EarlyLatency x55.LateLatency x55.Uncertainty)))).set (i9).toNat ((S_Clock.mk x67.Name x67.Place x67.Period x67.RiseAt (IntKind.wrap IntKind.i64 ((IntKind.wrap IntKind.i64 ((IntKind.wrap IntKind.i64 ((IntKind.wrap IntKind.i64 (i8 + 1)) + 1)) + 1)) + 1)) x67.Source x67.Divide x67.Invert x67.EarlyLatency x67.LateLatency x67.Uncertainty)))).set (i9).toNat ((S_Clock.mk x79.Name x79.Place x79.Period x79.RiseAt x79.FallAt (IntKind.wrap IntKind.i64 ((IntKind.wrap IntKind.i64 ((IntKind.wrap IntKind.i64 ((IntKind.wrap IntKind.i64 ((IntKind.wrap IntKind.i64 (i8 + 1)) + 1)) + 1)) + 1)) + 1)) x79.Divide x79.Invert x79.EarlyLatency x79.LateLatency x79.Uncertainty)))).set (i9).toNat ((S_Clock.mk x91.Name x91.Place x91.Period x91.RiseAt x91.FallAt x91.Source (IntKind.wrap IntKind.i64 ((IntKind.wrap IntKind.i64 ((IntKind.wrap IntKind.i64 ((IntKind.wrap IntKind.i64 ((IntKind.wrap IntKind.i64 ((IntKind.wrap IntKind.i64 (i8 + 1)) + 1)) + 1)) + 1)) + 1)) + 1)) x91.Invert x91.EarlyLatency x91.LateLatency x91.Uncertainty)))) i9) fun x103 => (Option.bind (getI ((((((((((((((((l10.set (i9).toNat ((S_Clock.mk r13 x19.Place x19.Period x19.RiseAt x19.FallAt x19.Source x19.Divide x19.Invert x19.EarlyLatency x19.LateLatency x19.Uncertainty)))).set (i9).toNat ((S_Clock.mk x31.Name (IntKind.wrap IntKind.i64 (i8 + 1)) x31.Period x31.RiseAt x31.FallAt x31.Source x31.Divide x31.Invert x31.EarlyLatency x31.LateLatency x31.Uncertainty)))).set (i9).toNat ((S_Clock.mk x43.Name x43.Place (IntKind.wrap IntKind.i64 ((IntKind.wrap IntKind.i64 (i8 + 1)) + 1)) x43.RiseAt x43.FallAt x43.Source x43.Divide x43.Invert x43.EarlyLatency x43.LateLatency x43.Uncertainty)))).set (i9).toNat ((S_Clock.mk x55.Name x55.Place x55.Period (IntKind.wrap IntKind.i64 ((IntKind.wrap IntKind.i64 ((IntKind.wrap IntKind.i64 (i8 + 1)) + 1)) + 1)) x55.FallAt x55.Source x55.Divide x55.Invert x55.EarlyLatency x55.LateLatency x55.Uncertainty)))).set (i9).toNat ((S_Clock.mk x67.Name x67.Place x67.Period x67.RiseAt (IntKind.wrap IntKind.i64 ((IntKind.wrap IntKind.i64 ((IntKind.wrap IntKind.i64 ((IntKind.wrap IntKind.i64 (i8 + 1)) + 1)) + 1)) + 1)) x67.Source x67.Divide x67.Invert x67.EarlyLatency x67.LateLatency x67.Uncertainty)))).set (i9).toNat ((S_Clock.mk x79.Name x79.Place x79.Period x79.RiseAt x79.FallAt (IntKind.wrap IntKind.i64 ((IntKind.wrap IntKind.i64 ((IntKind.wrap IntKind.i64 ((IntKind.wrap IntKind.i64 ((IntKind.wrap IntKind.i64 (i8 + 1)) + 1)) + 1)) + 1)) + 1)) x79.Divide x79.Invert x79.EarlyLatency x79.LateLatency x79.Uncertainty)))).set (i9).toNat ((S_Clock.mk x91.Name x91.Place x91.Period x91.RiseAt x91.FallAt x91.Source (IntKind.wrap IntKind.i64 ((IntKind.wrap IntKind.i64 ((IntKind.wrap IntKind.i64 ((IntKind.wrap IntKind.i64 ((IntKind.wrap IntKind.i64 ((IntKind.wrap IntKind.i64 (i8 + 1)) + 1)) + 1)) + 1)) + 1)) + 1)) x91.Invert x91.EarlyLatency x91.LateLatency x91.Uncertainty)))).set (i9).toNat ((S_Clock.mk x103.Name x103.Place x103.Period x103.RiseAt x103.FallAt x103.Source x103.Divide (((Int.tmod (IntKind.wrap IntKind.i64 ((IntKind.wrap IntKind.i64 ((IntKind.wrap IntKind.i64 ((IntKind.wrap IntKind.i64 ((IntKind.wrap IntKind.i64 ((IntKind.wrap IntKind.i64 ((IntKind.wrap IntKind.i64 (i8 + 1)) + 1)) + 1)) + 1)) + 1)) + 1)) + 1)) 3) == 0)) x103.EarlyLatency x103.LateLatency x103.Uncertainty)))) i9) fun x115 => (Option.bind (getI ((((((((((((((((((l10.set (i9).toNat ((S_Clock.mk r13 x19.Place x19.Period x19.RiseAt x19.FallAt x19.Source x19.Divide x19.Invert x19.EarlyLatency x19.LateLatency x19.Uncertainty)))).set (i9).toNat ((S_Clock.mk x31.Name (IntKind.wrap IntKind.i64 (i8 + 1)) x31.Period x31.RiseAt x31.FallAt x31.Source x31.Divide x31.Invert x31.EarlyLatency x31.LateLatency x31.Uncertainty)))).set (i9).toNat ((S_Clock.mk x43.Name x43.Place (IntKind.wrap IntKind.i64 ((IntKind.wrap IntKind.i64 (i8 + 1)) + 1)) x43.RiseAt x43.FallAt x43.Source x43.Divide x43.Invert x43.EarlyLatency x43.LateLatency x43.Uncertainty)))).set (i9).toNat ((S_Clock.mk x55.Name x55.Place x55.Period (IntKind.wrap IntKind.i64 ((IntKind.wrap IntKind.i64 ((IntKind.wrap IntKind.i64 (i8 + 1)) + 1)) + 1)) x55.FallAt x55.Source x55.Divide x55.Invert x55.EarlyLatency x55.LateLatency x55.Uncertainty)))).set (i9).toNat ((S_Clock.mk x67.Name x67.Place x67.Period x67.RiseAt (IntKind.wrap IntKind.i64 ((IntKind.wrap IntKind.i64 ((IntKind.wrap IntKind.i64 ((IntKind.wrap IntKind.i64 (i8 + 1)) + 1)) + 1)) + 1)) x67.Source x67.Divide x67.Invert x67.EarlyLatency x67.LateLatency x67.Uncertainty)))).set (i9).toNat ((S_Clock.mk x79.Name x79.Place x79.Period x79.RiseAt x79.FallAt (IntKind.wrap IntKind.i64 ((IntKind.wrap IntKind.i64 ((IntKind.wrap IntKind.i64 ((IntKind.wrap IntKind.i64 ((IntKind.wrap IntKind.i64 (i8 + 1)) + 1)) + 1)) + 1)) + 1)) x79.Divide x79.Invert x79.EarlyLatency x79.LateLatency x79.Uncertainty)))).set (i9).toNat ((S_Clock.mk x91.Name x91.Place x91.Period x91.RiseAt x91.FallAt x91.Source (IntKind.wrap IntKind.i64 ((IntKind.wrap IntKind.i64 ((IntKind.wrap IntKind.i64 ((IntKind.wrap IntKind.i64 ((IntKind.wrap IntKind.i64 ((IntKind.wrap IntKind.i64 (i8 + 1)) + 1)) + 1)) + 1)) + 1)) + 1)) x91.Invert x91.EarlyLatency x91.LateLatency x91.Uncertainty)))).set (i9).toNat ((S_Clock.mk x103.Name x103.Place x103.Period x103.RiseAt x103.FallAt x103.Source x103.Divide (((Int.tmod (IntKind.wrap IntKind.i64 ((IntKind.wrap IntKind.i64 ((IntKind.wrap IntKind.i64 ((IntKind.wrap IntKind.i64 ((IntKind.wrap IntKind.i64 ((IntKind.wrap IntKind.i64 ((IntKind.wrap IntKind.i64 (i8 + 1)) + 1)) + 1)) + 1)) + 1)) + 1)) + 1)) 3) == 0)) x103.EarlyLatency x103.LateLatency x103.Uncertainty)))).set (i9).toNat ((S_Clock.mk x115.Name x115.Place x115.Period x115.RiseAt x115.FallAt x115.Source x115.Divide x115.Invert (IntKind.wrap IntKind.i64 ((IntKind.wrap IntKind.i64 ((IntKind.wrap IntKind.i64 ((IntKind.wrap IntKind.i64 ((IntKind.wrap IntKind.i64 ((IntKind.wrap IntKind.i64 ((IntKind.wrap IntKind.i64 ((IntKind.wrap IntKind.i64 (i8 + 1)) + 1)) + 1)) + 1)) + 1)) + 1)) + 1)) + 1)) x115.LateLatency x115.Uncertainty)))) i9) fun x127 => (Option.bind (getI ((((((((((((((((((((l10.set (i9).toNat ((S_Clock.mk r13 x19.Place x19.Period x19.RiseAt x19.FallAt x19.Source x19.Divide x19.Invert x19.EarlyLatency x19.LateLatency x19.Uncertainty)))).set (i9).toNat ((S_Clock.mk x31.Name (IntKind.wrap IntKind.i64 (i8 + 1)) x31.Period x31.RiseAt x31.FallAt x31.Source x31.Divide x31.Invert x31.EarlyLatency x31.LateLatency x31.Uncertainty)))).set (i9).toNat ((S_Clock.mk x43.Name x43.Place (IntKind.wrap IntKind.i64 ((IntKind.wrap IntKind.i64 (i8 + 1)) + 1)) x43.RiseAt x43.FallAt x43.Source x43.Divide x43.Invert x43.EarlyLatency x43.LateLatency x43.Uncertainty)))).set (i9).toNat ((S_Clock.mk x55.Name x55.Place x55.Period (IntKind.wrap IntKind.i64 ((IntKind.wrap IntKind.i64 ((IntKind.wrap IntKind.i64 (i8 + 1)) + 1)) + 1)) x55.FallAt x55.Source x55.Divide x55.Invert x55.EarlyLatency x55.LateLatency x55.Uncertainty)))).set (i9).toNat ((S_Clock.mk x67.Name x67.Place x67.Period x67.RiseAt (IntKind.wrap IntKind.i64 ((IntKind.wrap IntKind.i64 ((IntKind.wrap IntKind.i64 ((IntKind.wrap IntKind.i64 (i8 + 1)) + 1)) + 1)) + 1)) x67.Source x67.Divide x67.Invert x67.EarlyLatency x67.LateLatency x67.Uncertainty)))).set (i9).toNat ((S_Clock.mk x79.Name x79.Place x79.Period x79.RiseAt x79.FallAt (IntKind.wrap IntKind.i64 ((IntKind.wrap IntKind.i64 ((IntKind.wrap IntKind.i64 ((IntKind.wrap IntKind.i64 ((IntKind.wrap IntKind.i64 (i8 + 1)) + 1)) + 1)) + 1)) + 1)) x79.Divide x79.Invert x79.EarlyLatency x79.LateLatency x79.Uncertainty)))).set (i9).toNat ((S_Clock.mk x91.Name x91.Place x91.Period x91.RiseAt x91.FallAt x91.Source (IntKind.wrap IntKind.i64 ((IntKind.wrap IntKind.i64 ((IntKind.wrap IntKind.i64 ((IntKind.wrap IntKind.i64 ((IntKind.wrap IntKind.i64 ((IntKind.wrap IntKind.i64 (i8 + 1)) + 1)) + 1)) + 1)) + 1)) + 1)) x91.Invert x91.EarlyLatency x91.LateLatency x91.Uncertainty)))).set (i9).toNat ((S_Clock.mk x103.Name x103.Place x103.Period x103.RiseAt x103.FallAt x103.Source x103.Divide (((Int.tmod (IntKind.wrap IntKind.i64 ((IntKind.wrap IntKind.i64 ((IntKind.wrap IntKind.i64 ((IntKind.wrap IntKind.i64 ((IntKind.wrap IntKind.i64 ((IntKind.wrap IntKind.i64 ((IntKind.wrap IntKind.i64 (i8 + 1)) + 1)) + 1)) + 1)) + 1)) + 1)) + 1)) 3) == 0)) x103.EarlyLatency x103.LateLatency x103.Uncertainty)))).set (i9).toNat ((S_Clock.mk x115.Name x115.Place x115.Period x115.RiseAt x115.FallAt x115.Source x115.Divide x115.Invert (IntKind.wrap IntKind.i64 ((IntKind.wrap IntKind.i64 ((IntKind.wrap IntKind.i64 ((IntKind.wrap IntKind.i64 ((IntKind.wrap IntKind.i64 ((IntKind.wrap IntKind.i64 ((IntKind.wrap IntKind.i64 ((IntKind.wrap IntKind.i64 (i8 + 1)) + 1)) + 1)) + 1)) + 1)) + 1)) + 1)) + 1)) x115.LateLatency x115.Uncertainty)))).set (i9).toNat ((S_Clock.mk x127.Name x127.Place x127.Period x127.RiseAt x127.FallAt x127.Source x127.Divide x127.Invert x127.EarlyLatency (IntKind.wrap IntKind.i64 ((IntKind.wrap IntKind.i64 ((IntKind.wrap IntKind.i64 ((IntKind.wrap IntKind.i64 ((IntKind.wrap IntKind.i64 ((IntKind.wrap IntKind.i64 ((IntKind.wrap IntKind.i64 ((IntKind.wrap IntKind.i64 ((IntKind.wrap IntKind.i64 (i8 + 1)) + 1)) + 1)) + 1)) + 1)) + 1)) + 1)) + 1)) + 1)) x127.Uncertainty)))) i9) fun x139 => (F_laws_markClockS_L1 n k0 m (IntKind.wrap IntKind.i64 ((IntKind.wrap IntKind.i64 ((IntKind.wrap IntKind.i64 ((IntKind.wrap IntKind.i64 ((IntKind.wrap IntKind.i64 ((IntKind.wrap IntKind.i64 ((IntKind.wrap IntKind.i64 ((IntKind.wrap IntKind.i64 ((IntKind.wrap IntKind.i64 ((IntKind.wrap IntKind.i64 ((IntKind.wrap IntKind.i64 (i8 + 1)) + 1)) + 1)) + 1)) + 1)) + 1)) + 1)) + 1)) + 1)) + 1)) + 1)) (IntKind.wrap IntKind.i64 (i9 + 1)) ((((((((((((((((((((((l10.set (i9).toNat ((S_Clock.mk r13 x19.Place x19.Period x19.RiseAt x19.FallAt x19.Source x19.Divide x19.Invert x19.EarlyLatency x19.LateLatency x19.Uncertainty)))).set (i9).toNat ((S_Clock.mk x31.Name (IntKind.wrap IntKind.i64 (i8 + 1)) x31.Period x31.RiseAt x31.FallAt x31.Source x31.Divide x31.Invert x31.EarlyLatency x31.LateLatency x31.Uncertainty)))).set (i9).toNat ((S_Clock.mk x43.Name x43.Place (IntKind.wrap IntKind.i64 ((IntKind.wrap IntKind.i64 (i8 + 1)) + 1)) x43.RiseAt x43.FallAt x43.Source x43.Divide x43.Invert x43.EarlyLatency x43.LateLatency x43.Uncertainty)))).set (i9).toNat ((S_Clock.mk x55.Name x55.Place x55.Period (IntKind.wrap IntKind.i64 ((IntKind.wrap IntKind.i64 ((IntKind.wrap IntKind.i64 (i8 + 1)) + 1)) + 1)) x55.FallAt x55.Source x55.Divide x55.Invert x55.EarlyLatency x55.LateLatency x55.Uncertainty)))).set (i9).toNat ((S_Clock.mk x67.Name x67.Place x67.Period x67.RiseAt (IntKind.wrap IntKind.i64 ((IntKind.wrap IntKind.i64 ((IntKind.wrap IntKind.i64 ((IntKind.wrap IntKind.i64 (i8 + 1)) + 1)) + 1)) + 1)) x67.Source x67.Divide x67.Invert x67.EarlyLatency x67.LateLatency x67.Uncertainty)))).set (i9).toNat ((S_Clock.mk x79.Name x79.Place x79.Period x79.RiseAt x79.FallAt (IntKind.wrap IntKind.i64 ((IntKind.wrap IntKind.i64 ((IntKind.wrap IntKind.i64 ((IntKind.wrap IntKind.i64 ((IntKind.wrap IntKind.i64 (i8 + 1)) + 1)) + 1)) + 1)) + 1)) x79.Divide x79.Invert x79.EarlyLatency x79.LateLatency x79.Uncertainty)))).set (i9).toNat ((S_Clock.mk x91.Name x91.Place x91.Period x91.RiseAt x91.FallAt x91.Source (IntKind.wrap IntKind.i64 ((IntKind.wrap IntKind.i64 ((IntKind.wrap IntKind.i64 ((IntKind.wrap IntKind.i64 ((IntKind.wrap IntKind.i64 ((IntKind.wrap IntKind.i64 (i8 + 1)) + 1)) + 1)) + 1)) + 1)) + 1)) x91.Invert x91.EarlyLatency x91.LateLatency x91.Uncertainty)))).set (i9).toNat ((S_Clock.mk x103.Name x103.Place x103.Period x103.RiseAt x103.FallAt x103.Source x103.Divide (((Int.tmod (IntKind.wrap IntKind.i64 ((IntKind.wrap IntKind.i64 ((IntKind.wrap IntKind.i64 ((IntKind.wrap IntKind.i64 ((IntKind.wrap IntKind.i64 ((IntKind.wrap IntKind.i64 ((IntKind.wrap IntKind.i64 (i8 + 1)) + 1)) + 1)) + 1)) + 1)) + 1)) + 1)) 3) == 0)) x103.EarlyLatency x103.LateLatency x103.Uncertainty)))).set (i9).toNat ((S_Clock.mk x115.Name x115.Place x115.Period x115.RiseAt x115.FallAt x115.Source x115.Divide x115.Invert (IntKind.wrap IntKind.i64 ((IntKind.wrap IntKind.i64 ((IntKind.wrap IntKind.i64 ((IntKind.wrap IntKind.i64 ((IntKind.wrap IntKind.i64 ((IntKind.wrap IntKind.i64 ((IntKind.wrap IntKind.i64 ((IntKind.wrap IntKind.i64 (i8 + 1)) + 1)) + 1)) + 1)) + 1)) + 1)) + 1)) + 1)) x115.LateLatency x115.Uncertainty)))).set (i9).toNat ((S_Clock.mk x127.Name x127.Place x127.Period x127.RiseAt x127.FallAt x127.Source x127.Divide x127.Invert x127.EarlyLatency (IntKind.wrap IntKind.i64 ((IntKind.wrap IntKind.i64 ((IntKind.wrap IntKind.i64 ((IntKind.wrap IntKind.i64 ((IntKind.wrap IntKind.i64 ((IntKind.wrap IntKind.i64 ((IntKind.wrap IntKind.i64 ((IntKind.wrap IntKind.i64 ((IntKind.wrap IntKind.i64 (i8 + 1)) + 1)) + 1)) + 1)) + 1)) + 1)) + 1)) + 1)) + 1)) x127.Uncertainty)))).set (i9).toNat ((S_Clock.mk x139.Name x139.Place x139.Period x139.RiseAt x139.FallAt x139.Source x139.Divide x139.Invert x139.EarlyLatency x139.LateLatency (IntKind.wrap IntKind.i64 ((IntKind.wrap IntKind.i64 ((IntKind.wrap IntKind.i64 ((IntKind.wrap IntKind.i64 ((IntKind.wrap IntKind.i64 ((IntKind.wrap IntKind.i64 ((IntKind.wrap IntKind.i64 ((IntKind.wrap IntKind.i64 ((IntKind.wrap IntKind.i64 ((IntKind.wrap IntKind.i64 (i8 + 1)) + 1)) + 1)) + 1)) + 1)) + 1)) + 1)) + 1)) + 1)) + 1))))))))))))))))))) else (k0 i8 i9 l10))
theorem F_laws_markClockS_L1_z (n : Nat) (k0 : Int → Int → (List S_Clock) → Option (Int × (List S_Clock))) (i8 : Int) (i9 : Int) (l10 : List S_Clock) : F_laws_markClockS_L1 n k0 0 i8 i9 l10 = none := rfl
theorem F_laws_markClockS_L1_s (m : Nat) (n : Nat) (k0 : Int → Int → (List S_Clock) → Option (Int × (List S_Clock))) (i8 : Int) (i9 : Int) (l10 : List S_Clock) : F_laws_markClockS_L1 n k0 (m + 1) i8 i9 l10 = (bif decide (i9 < (l10.length : Int)) then (Option.bind (F_laws_markText n i8) fun r13 => (Option.bind (getI l10 i9) fun x19 => (Option.bind (getI ((l10.set (i9).toNat ((S_Clock.mk r13 x19.Place x19.Period x19.RiseAt x19.FallAt x19.Source x19.Divide x19.Invert x19.EarlyLatency x19.LateLatency x19.Uncertainty)))) i9) fun x31 => (Option.bind (getI ((((l10.set (i9).toNat ((S_Clock.mk r13 x19.Place x19.Period x19.RiseAt x19.FallAt x19.Source x19.Divide x19.Invert x19.EarlyLatency x19.LateLatency x19.Uncertainty)))).set (i9).toNat ((S_Clock.mk x31.Name (IntKind.wrap IntKind.i64 (i8 + 1)) x31.Period x31.RiseAt x31.FallAt x31.Source x31.Divide x31.Invert x31.EarlyLatency x31.LateLatency x31.Uncertainty)))) i9) fun x43 => (Option.bind (getI ((((((l10.set (i9).toNat ((S_Clock.mk r13 x19.Place x19.Period x19.RiseAt x19.FallAt x19.Source x19.Divide x19.Invert x19.EarlyLatency x19.LateLatency x19.Uncertainty)))).set (i9).toNat ((S_Clock.mk x31.Name (IntKind.wrap IntKind.i64 (i8 + 1)) x31.Period x31.RiseAt x31.FallAt x31.Source x31.Divide x31.Invert x31.EarlyLatency x31.LateLatency x31.Uncertainty)))).set (i9).toNat ((S_Clock.mk x43.Name x43.Place (IntKind.wrap IntKind.i64 ((IntKind.wrap IntKind.i64 (i8 + 1)) + 1)) x43.RiseAt x43.FallAt x43.Source x43.Divide x43.Invert x43.EarlyLatency x43.LateLatency x43.Uncertainty)))) i9) fun x55 => (Option.bind (getI ((((((((l10.set (i9).toNat ((S_Clock.mk r13 x19.Place x19.Period x19.RiseAt x19.FallAt x19.Source x19.Divide x19.Invert x19.EarlyLatency x19.LateLatency x19.Uncertainty)))).set (i9).toNat ((S_Clock.mk x31.Name (IntKind.wrap IntKind.i64 (i8 + 1)) x31.Period x31.RiseAt x31.FallAt x31.Source x31.Divide x31.Invert x31.EarlyLatency x31.LateLatency x31.Uncertainty)))).set (i9).toNat ((S_Clock.mk x43.Name x43.Place (IntKind.wrap IntKind.i64 ((IntKind.wrap IntKind.i64 (i8 + 1)) + 1)) x43.RiseAt x43.FallAt x43.Source x43.Divide x43.Invert x43.EarlyLatency x43.LateLatency x43.Uncertainty)))).set (i9).toNat ((S_Clock.mk x55.Name x55.Place x55.Period (IntKind.wrap IntKind.i64 ((IntKind.wrap IntKind.i64 ((IntKind.wrap IntKind.i64 (i8 + 1)) + 1)) + 1)) x55.FallAt x55.Source x55.Divide x55.Invert x55.EarlyLatency x55.LateLatency x55.Uncertainty)))) i9) fun x67 => (Option.bind (getI ((((((((((l10.set (i9).toNat ((S_Clock.mk r13 x19.Place x19.Period x19.RiseAt x19.FallAt x19.Source x19.Divide x19.Invert x19.EarlyLatency x19.LateLatency x19.Uncertainty)))).set (i9).toNat ((S_Clock.mk x31.Name (IntKind.wrap IntKind.i64 (i8 + 1)) x31.Period x31.RiseAt x31.FallAt x31.Source x31.Divide x31.Invert x31.EarlyLatency x31.LateLatency x31.Uncertainty)))).set (i9).toNat ((S_Clock.mk x43.Name x43.Place (IntKind.wrap IntKind.i64 ((IntKind.wrap IntKind.i64 (i8 + 1)) + 1)) x43.RiseAt x43.FallAt x43.Source x43.Divide x43.Invert x43.EarlyLatency x43.LateLatency x43.Uncertainty)))).set (i9).toNat ((S_Clock.mk x55.Name x55.Place x55.Period (IntKind.wrap IntKind.i64 ((IntKind.wrap IntKind.i64 ((IntKind.wrap IntKind.i64 (i8 + 1)) + 1)) + 1)) x55.FallAt x55.Source x55.Divide x55.Invert x55.EarlyLatency x55.LateLatency x55.Uncertainty)))).set (i9).toNat ((S_Clock.mk x67.Name x67.Place x67.Period x67.RiseAt (IntKind.wrap IntKind.i64 ((IntKind.wrap IntKind.i64 ((IntKind.wrap IntKind.i64 ((IntKind.wrap IntKind.i64 (i8 + 1)) + 1)) + 1)) + 1)) x67.Source x67.Divide x67.Invert x67.EarlyLatency x67.LateLatency x67.Uncertainty)))) i9) fun x79 => (Option.bind (getI ((((((((((((l10.set (i9).toNat ((S_Clock.mk r13 x19.Place x19.Period x19.RiseAt x19.FallAt x19.Source x19.Divide x19.Invert x19.EarlyLatency x19.LateLatency x19.Uncertainty)))).set (i9).toNat ((S_Clock.mk x31.Name (IntKind.wrap IntKind.i64 (i8 + 1)) x31.Period x31.RiseAt x31.FallAt x31.Source x31.Divide x31.Invert x31.EarlyLatency x31.LateLatency x31.Uncertainty)))).set (i9).toNat ((S_Clock.mk x43.Name x43.Place (IntKind.wrap IntKind.i64 ((IntKind.wrap IntKind.i64 (i8 + 1)) + 1)) x43.RiseAt x43.FallAt x43.Source x43.Divide x43.Invert x43.EarlyLatency x43.LateLatency x43.Uncertainty)))).set (i9).toNat ((S_Clock.mk x55.Name x55.Place x55.Period (IntKind.wrap IntKind.i64 ((IntKind.wrap IntKind.i64 ((IntKind.wrap IntKind.i64 (i8 + 1)) + 1)) + 1)) x55.FallAt x55.Source x55.Divide x55.Invert x55.EarlyLatency x55.LateLatency x55.Uncertainty)))).set (i9).toNat ((S_Clock.mk x67.Name x67.Place x67.Period x67.RiseAt (IntKind.wrap IntKind.i64 ((IntKind.wrap IntKind.i64 ((IntKind.wrap IntKind.i64 ((IntKind.wrap IntKind.i64 (i8 + 1)) + 1)) + 1)) + 1)) x67.Source x67.Divide x67.Invert x67.EarlyLatency x67.LateLatency x67.Uncertainty)))).set (i9).toNat ((S_Clock.mk x79.Name x79.Place x79.Period x79.RiseAt x79.FallAt (IntKind.wrap IntKind.i64 ((IntKind.wrap IntKind.i64 ((IntKind.wrap IntKind.i64 ((IntKind.wrap IntKind.i64 ((IntKind.wrap IntKind.i64 (i8 + 1)) + 1)) + 1)) + 1)) + 1)) x79.Divide x79.Invert x79.EarlyLatency x79.LateLatency x79.Uncertainty)))) i9) fun x91 => (Option.bind (getI ((((((((((((((l10.set (i9).toNat ((S_Clock.mk r13 x19.Place x19.Period x19.RiseAt x19.FallAt x19.Source x19.Divide x19.Invert x19.EarlyLatency x19.LateLatency x19.Uncertainty)))).set (i9).toNat ((S_Clock.mk x31.Name (IntKind.wrap IntKind.i64 (i8 + 1)) x31.Period x31.RiseAt x31.FallAt x31.Source x31.Divide x31.Invert x31.EarlyLatency x31.LateLatency x31.Uncertainty)))).set (i9).toNat ((S_Clock.mk x43.Name x43.Place (IntKind.wrap IntKind.i64 ((IntKind.wrap IntKind.i64 (i8 + 1)) + 1)) x43.RiseAt x43.FallAt x43.Source x43.Divide x43.Invert x43.EarlyLatency x43.LateLatency x43.Uncertainty)))).set (i9).toNat ((S_Clock.mk x55.Name x55.Place x55.Period (IntKind.wrap IntKind.i64 ((IntKind.wrap IntKind.i64 ((IntKind.wrap IntKind.i64 (i8 + 1)) + 1)) + 1)) x55.FallAt x55.Source x55.Divide x55.Invert x55.EarlyLatency x55.LateLatency x55.Uncertainty)))).set (i9).toNat ((S_Clock.mk x67.Name x67.Place x67.Period x67.RiseAt (IntKind.wrap IntKind.i64 ((IntKind.wrap IntKind.i64 ((IntKind.wrap IntKind.i64 ((IntKind.wrap IntKind.i64 (i8 + 1)) + 1)) + 1)) + 1)) x67.Source x67.Divide x67.Invert x67.EarlyLatency x67.LateLatency x67.Uncertainty)))).set (i9).toNat ((S_Clock.mk x79.Name x79.Place x79.Period x79.RiseAt x79.FallAt (IntKind.wrap IntKind.i64 ((IntKind.wrap IntKind.i64 ((IntKind.wrap IntKind.i64 ((IntKind.wrap IntKind.i64 ((IntKind.wrap IntKind.i64 (i8 + 1)) + 1)) + 1)) + 1)) + 1)) x79.Divide x79.Invert x79.EarlyLatency x79.LateLatency x79.Uncertainty)))).set (i9).toNat ((S_Clock.mk x91.Name x91.Place x91.Period x91.RiseAt x91.FallAt x91.Source (IntKind.wrap IntKind.i64 ((IntKind.wrap IntKind.i64 ((IntKind.wrap IntKind.i64 ((IntKind.wrap IntKind.i64 ((IntKind.wrap IntKind.i64 ((IntKind.wrap IntKind.i64 (i8 + 1)) + 1)) + 1)) + 1)) + 1)) + 1)) x91.Invert x91.EarlyLatency x91.LateLatency x91.Uncertainty)))) i9) fun x103 => (Option.bind (getI ((((((((((((((((l10.set (i9).toNat ((S_Clock.mk r13 x19.Place x19.Period x19.RiseAt x19.FallAt x19.Source x19.Divide x19.Invert x19.EarlyLatency x19.LateLatency x19.Uncertainty)))).set (i9).toNat ((S_Clock.mk x31.Name (IntKind.wrap IntKind.i64 (i8 + 1)) x31.Period x31.RiseAt x31.FallAt x31.Source x31.Divide x31.Invert x31.EarlyLatency x31.LateLatency x31.Uncertainty)))).set (i9).toNat ((S_Clock.mk x43.Name x43.Place (IntKind.wrap IntKind.i64 ((IntKind.wrap IntKind.i64 (i8 + 1)) + 1)) x43.RiseAt x43.FallAt x43.Source x43.Divide x43.Invert x43.EarlyLatency x43.LateLatency x43.Uncertainty)))).set (i9).toNat ((S_Clock.mk x55.Name x55.Place x55.Period (IntKind.wrap IntKind.i64 ((IntKind.wrap IntKind.i64 ((IntKind.wrap IntKind.i64 (i8 + 1)) + 1)) + 1)) x55.FallAt x55.Source x55.Divide x55.Invert x55.EarlyLatency x55.LateLatency x55.Uncertainty)))).set (i9).toNat ((S_Clock.mk x67.Name x67.Place x67.Period x67.RiseAt (IntKind.wrap IntKind.i64 ((IntKind.wrap IntKind.i64 ((IntKind.wrap IntKind.i64 ((IntKind.wrap IntKind.i64 (i8 + 1)) + 1)) + 1)) + 1)) x67.Source x67.Divide x67.Invert x67.EarlyLatency x67.LateLatency x67.Uncertainty)))).set (i9).toNat ((S_Clock.mk x79.Name x79.Place x79.Period x79.RiseAt x79.FallAt (IntKind.wrap IntKind.i64 ((IntKind.wrap IntKind.i64 ((IntKind.wrap IntKind.i64 ((IntKind.wrap IntKind.i64 ((IntKind.wrap IntKind.i64 (i8 + 1)) + 1)) + 1)) + 1)) + 1)) x79.Divide x79.Invert x79.EarlyLatency x79.LateLatency x79.Uncertainty)))).set (i9).toNat ((S_Clock.mk x91.Name x91.Place x91.Period x91.RiseAt x91.FallAt x91.Source (IntKind.wrap IntKind.i64 ((IntKind.wrap IntKind.i64 ((IntKind.wrap IntKind.i64 ((IntKind.wrap IntKind.i64 ((IntKind.wrap IntKind.i64 ((IntKind.wrap IntKind.i64 (i8 + 1)) + 1)) + 1)) + 1)) + 1)) + 1)) x91.Invert x91.EarlyLatency x91.LateLatency x91.Uncertainty)))).set (i9).toNat ((S_Clock.mk x103.Name x103.Place x103.Period x103.RiseAt x103.FallAt x103.Source x103.Divide (((Int.tmod (IntKind.wrap IntKind.i64 ((IntKind.wrap IntKind.i64 ((IntKind.wrap IntKind.i64 ((IntKind.wrap IntKind.i64 ((IntKind.wrap IntKind.i64 ((IntKind.wrap IntKind.i64 ((IntKind.wrap IntKind.i64 (i8 + 1)) + 1)) + 1)) + 1)) + 1)) + 1)) + 1)) 3) == 0)) x103.EarlyLatency x103.LateLatency x103.Uncertainty)))) i9) fun x115 => (Option.bind (getI ((((((((((((((((((l10.set (i9).toNat ((S_Clock.mk r13 x19.Place x19.Period x19.RiseAt x19.FallAt x19.Source x19.Divide x19.Invert x19.EarlyLatency x19.LateLatency x19.Uncertainty)))).set (i9).toNat ((S_Clock.mk x31.Name (IntKind.wrap IntKind.i64 (i8 + 1)) x31.Period x31.RiseAt x31.FallAt x31.Source x31.Divide x31.Invert x31.EarlyLatency x31.LateLatency x31.Uncertainty)))).set (i9).toNat ((S_Clock.mk x43.Name x43.Place (IntKind.wrap IntKind.i64 ((IntKind.wrap IntKind.i64 (i8 + 1)) + 1)) x43.RiseAt x43.FallAt x43.Source x43.Divide x43.Invert x43.EarlyLatency x43.LateLatency x43.Uncertainty)))).set (i9).toNat ((S_Clock.mk x55.Name x55.Place x55.Period (IntKind.wrap IntKind.i64 ((IntKind.wrap IntKind.i64 ((IntKind.wrap IntKind.i64 (i8 + 1)) + 1)) + 1)) x55.FallAt x55.Source x55.Divide x55.Invert x55.EarlyLatency x55.LateLatency x55.Uncertainty)))).set (i9).toNat ((S_Clock.mk x67.Name x67.Place x67.Period x67.RiseAt (IntKind.wrap IntKind.i64 ((IntKind.wrap IntKind.i64 ((IntKind.wrap IntKind.i64 ((IntKind.wrap IntKind.i64 (i8 + 1)) + 1)) + 1)) + 1)) x67.Source x67.Divide x67.Invert x67.EarlyLatency x67.LateLatency x67.Uncertainty)))).set (i9).toNat ((S_Clock.mk x79.Name x79.Place x79.Period x79.RiseAt x79.FallAt (IntKind.wrap IntKind.i64 ((IntKind.wrap IntKind.i64 ((IntKind.wrap IntKind.i64 ((IntKind.wrap IntKind.i64 ((IntKind.wrap IntKind.i64 (i8 + 1)) + 1)) + 1)) + 1)) + 1)) x79.Divide x79.Invert x79.EarlyLatency x79.LateLatency x79.Uncertainty)))).set (i9).toNat ((S_Clock.mk x91.Name x91.Place x91.Period x91.RiseAt x91.FallAt x91.Source (IntKind.wrap IntKind.i64 ((IntKind.wrap IntKind.i64 ((IntKind.wrap IntKind.i64 ((IntKind.wrap IntKind.i64 ((IntKind.wrap IntKind.i64 ((IntKind.wrap IntKind.i64 (i8 + 1)) + 1)) + 1)) + 1)) + 1)) + 1)) x91.Invert x91.EarlyLatency x91.LateLatency x91.Uncertainty)))).set (i9).toNat ((S_Clock.mk x103.Name x103.Place x103.Period x103.RiseAt x103.FallAt x103.Source x103.Divide (((Int.tmod (IntKind.wrap IntKind.i64 ((IntKind.wrap IntKind.i64 ((IntKind.wrap IntKind.i64 ((IntKind.wrap IntKind.i64 ((IntKind.wrap IntKind.i64 ((IntKind.wrap IntKind.i64 ((IntKind.wrap IntKind.i64 (i8 + 1)) + 1)) + 1)) + 1)) + 1)) + 1)) + 1)) 3) == 0)) x103.EarlyLatency x103.LateLatency x103.Uncertainty)))).set (i9).toNat ((S_Clock.mk x115.Name x115.Place x115.Period x115.RiseAt x115.FallAt x115.Source x115.Divide x115.Invert (IntKind.wrap IntKind.i64 ((IntKind.wrap IntKind.i64 ((IntKind.wrap IntKind.i64 ((IntKind.wrap IntKind.i64 ((IntKind.wrap IntKind.i64 ((IntKind.wrap IntKind.i64 ((IntKind.wrap IntKind.i64 ((IntKind.wrap IntKind.i64 (i8 + 1)) + 1)) + 1)) + 1)) + 1)) + 1)) + 1)) + 1)) x115.LateLatency x115.Uncertainty)))) i9) fun x127 => (Option.bind (getI ((((((((((((((((((((l10.set (i9).toNat ((S_Clock.mk r13 x19.Place x19.Period x19.RiseAt x19.FallAt x19.Source x19.Divide x19.Invert x19.EarlyLatency x19.LateLatency x19.Uncertainty)))).set (i9).toNat ((S_Clock.mk x31.Name (IntKind.wrap IntKind.i64 (i8 + 1)) x31.Period x31.RiseAt x31.FallAt x31.Source x31.Divide x31.Invert x31.EarlyLatency x31.LateLatency x31.Uncertainty)))).set (i9).toNat ((S_Clock.mk x43.Name x43.Place (IntKind.wrap IntKind.i64 ((IntKind.wrap IntKind.i64 (i8 + 1)) + 1)) x43.RiseAt x43.FallAt x43.Source x43.Divide x43.Invert x43.EarlyLatency x43.LateLatency x43.Uncertainty)))).set (i9).toNat ((S_Clock.mk x55.Name x55.Place x55.Period (IntKind.wrap IntKind.i64 ((IntKind.wrap IntKind.i64 ((IntKind.wrap IntKind.i64 (i8 + 1)) + 1)) + 1)) x55.FallAt x55.Source x55.Divide x55.Invert x55.EarlyLatency x55.LateLatency x55.Uncertainty)))).set (i9).toNat ((S_Clock.mk x67.Name x67.Place x67.Period x67.RiseAt (IntKind.wrap IntKind.i64 ((IntKind.wrap IntKind.i64 ((IntKind.wrap IntKind.i64 ((IntKind.wrap IntKind.i64 (i8 + 1)) + 1)) + 1)) + 1)) x67.Source x67.Divide x67.Invert x67.EarlyLatency x67.LateLatency x67.Uncertainty)))).set (i9).toNat ((S_Clock.mk x79.Name x79.Place x79.Period x79.RiseAt x79.FallAt (IntKind.wrap IntKind.i64 ((IntKind.wrap IntKind.i64 ((IntKind.wrap IntKind.i64 ((IntKind.wrap IntKind.i64 ((IntKind.wrap IntKind.i64 (i8 + 1)) + 1)) + 1)) + 1)) + 1)) x79.Divide x79.Invert x79.EarlyLatency x79.LateLatency x79.Uncertainty)))).set (i9).toNat ((S_Clock.mk x91.Name x91.Place x91.Period x91.RiseAt x91.FallAt x91.Source (IntKind.wrap IntKind.i64 ((IntKind.wrap IntKind.i64 ((IntKind.wrap IntKind.i64 ((IntKind.wrap IntKind.i64 ((IntKind.wrap IntKind.i64 ((IntKind.wrap IntKind.i64 (i8 + 1)) + 1)) + 1)) + 1)) + 1)) + 1)) x91.Invert x91.EarlyLatency x91.LateLatency x91.Uncertainty)))).set (i9).toNat ((S_Clock.mk x103.Name x103.Place x103.Period x103.RiseAt x103.FallAt x103.Source x103.Divide (((Int.tmod (IntKind.wrap IntKind.i64 ((IntKind.wrap IntKind.i64 ((IntKind.wrap IntKind.i64 ((IntKind.wrap IntKind.i64 ((IntKind.wrap IntKind.i64 ((IntKind.wrap IntKind.i64 ((IntKind.wrap IntKind.i64 (i8 + 1)) + 1)) + 1)) + 1)) + 1)) + 1)) + 1)) 3) == 0)) x103.EarlyLatency x103.LateLatency x103.Uncertainty)))).set (i9).toNat ((S_Clock.mk x115.Name x115.Place x115.Period x115.RiseAt x115.FallAt x115.Source x115.Divide x115.Invert (IntKind.wrap IntKind.i64 ((IntKind.wrap IntKind.i64 ((IntKind.wrap IntKind.i64 ((IntKind.wrap IntKind.i64 ((IntKind.wrap IntKind.i64 ((IntKind.wrap IntKind.i64 ((IntKind.wrap IntKind.i64 ((IntKind.wrap IntKind.i64 (i8 + 1)) + 1)) + 1)) + 1)) + 1)) + 1)) + 1)) + 1)) x115.LateLatency x115.Uncertainty)))).set (i9).toNat ((S_Clock.mk x127.Name x127.Place x127.Period x127.RiseAt x127.FallAt x127.Source x127.Divide x127.Invert x127.EarlyLatency (IntKind.wrap IntKind.i64 ((IntKind.wrap IntKind.i64 ((IntKind.wrap IntKind.i64 ((IntKind.wrap IntKind.i64 ((IntKind.wrap IntKind.i64 ((IntKind.wrap IntKind.i64 ((IntKind.wrap IntKind.i64 ((IntKind.wrap IntKind.i64 ((IntKind.wrap IntKind.i64 (i8 + 1)) + 1)) + 1)) + 1)) + 1)) + 1)) + 1)) + 1)) + 1)) x127.Uncertainty)))) i9) fun x139 => (F_laws_markClockS_L1 n k0 m (IntKind.wrap IntKind.i64 ((IntKind.wrap IntKind.i64 ((IntKind.wrap IntKind.i64 ((IntKind.wrap IntKind.i64 ((IntKind.wrap IntKind.i64 ((IntKind.wrap IntKind.i64 ((IntKind.wrap IntKind.i64 ((IntKind.wrap IntKind.i64 ((IntKind.wrap IntKind.i64 ((IntKind.wrap IntKind.i64 ((IntKind.wrap IntKind.i64 (i8 + 1)) + 1)) + 1)) + 1)) + 1)) + 1)) + 1)) + 1)) + 1)) + 1)) + 1)) (IntKind.wrap IntKind.i64 (i9 + 1)) ((((((((((((((((((((((l10.set (i9).toNat ((S_Clock.mk r13 x19.Place x19.Period x19.RiseAt x19.FallAt x19.Source x19.Divide x19.Invert x19.EarlyLatency x19.LateLatency x19.Uncertainty)))).set (i9).toNat ((S_Clock.mk x31.Name (IntKind.wrap IntKind.i64 (i8 + 1)) x31.Period x31.RiseAt x31.FallAt x31.Source x31.Divide x31.Invert x31.EarlyLatency x31.LateLatency x31.Uncertainty)))).set (i9).toNat ((S_Clock.mk x43.Name x43.Place (IntKind.wrap IntKind.i64 ((IntKind.wrap IntKind.i64 (i8 + 1)) + 1)) x43.RiseAt x43.FallAt x43.Source x43.Divide x43.Invert x43.EarlyLatency x43.LateLatency x43.Uncertainty)))).set (i9).toNat ((S_Clock.mk x55.Name x55.Place x55.Period (IntKind.wrap IntKind.i64 ((IntKind.wrap IntKind.i64 ((IntKind.wrap IntKind.i64 (i8 + 1)) + 1)) + 1)) x55.FallAt x55.Source x55.Divide x55.Invert x55.EarlyLatency x55.LateLatency x55.Uncertainty)))).set (i9).toNat ((S_Clock.mk x67.Name x67.Place x67.Period x67.RiseAt (IntKind.wrap IntKind.i64 ((IntKind.wrap IntKind.i64 ((IntKind.wrap IntKind.i64 ((IntKind.wrap IntKind.i64 (i8 + 1)) + 1)) + 1)) + 1)) x67.Source x67.Divide x67.Invert x67.EarlyLatency x67.LateLatency x67.Uncertainty)))).set (i9).toNat ((S_Clock.mk x79.Name x79.Place x79.Period x79.RiseAt x79.FallAt (IntKind.wrap IntKind.i64 ((IntKind.wrap IntKind.i64 ((IntKind.wrap IntKind.i64 ((IntKind.wrap IntKind.i64 ((IntKind.wrap IntKind.i64 (i8 + 1)) + 1)) + 1)) + 1)) + 1)) x79.Divide x79.Invert x79.EarlyLatency x79.LateLatency x79.Uncertainty)))).set (i9).toNat ((S_Clock.mk x91.Name x91.Place x91.Period x91.RiseAt x91.FallAt x91.Source (IntKind.wrap IntKind.i64 ((IntKind.wrap IntKind.i64 ((IntKind.wrap IntKind.i64 ((IntKind.wrap IntKind.i64 ((IntKind.wrap IntKind.i64 ((IntKind.wrap IntKind.i64 (i8 + 1)) + 1)) + 1)) + 1)) + 1)) + 1)) x91.Invert x91.EarlyLatency x91.LateLatency x91.Uncertainty)))).set (i9).toNat ((S_Clock.mk x103.Name x103.Place x103.Period x103.RiseAt x103.FallAt x103.Source x103.Divide (((Int.tmod (IntKind.wrap IntKind.i64 ((IntKind.wrap IntKind.i64 ((IntKind.wrap IntKind.i64 ((IntKind.wrap IntKind.i64 ((IntKind.wrap IntKind.i64 ((IntKind.wrap IntKind.i64 ((IntKind.wrap IntKind.i64 (i8 + 1)) + 1)) + 1)) + 1)) + 1)) + 1)) + 1)) 3) == 0)) x103.EarlyLatency x103.LateLatency x103.Uncertainty)))).set (i9).toNat ((S_Clock.mk x115.Name x115.Place x115.Period x115.RiseAt x115.FallAt x115.Source x115.Divide x115.Invert (IntKind.wrap IntKind.i64 ((IntKind.wrap IntKind.i64 ((IntKind.wrap IntKind.i64 ((IntKind.wrap IntKind.i64 ((IntKind.wrap IntKind.i64 ((IntKind.wrap IntKind.i64 ((IntKind.wrap IntKind.i64 ((IntKind.wrap IntKind.i64 (i8 + 1)) + 1)) + 1)) + 1)) + 1)) + 1)) + 1)) + 1)) x115.LateLatency x115.Uncertainty)))).set (i9).toNat ((S_Clock.mk x127.Name x127.Place x127.Period x127.RiseAt x127.FallAt x127.Source x127.Divide x127.Invert x127.EarlyLatency (IntKind.wrap IntKind.i64 ((IntKind.wrap IntKind.i64 ((IntKind.wrap IntKind.i64 ((IntKind.wrap IntKind.i64 ((IntKind.wrap IntKind.i64 ((IntKind.wrap IntKind.i64 ((IntKind.wrap IntKind.i64 ((IntKind.wrap IntKind.i64 ((IntKind.wrap IntKind.i64 (i8 + 1)) + 1)) + 1)) + 1)) + 1)) + 1)) + 1)) + 1)) + 1)) x127.Uncertainty)))).set (i9).toNat ((S_Clock.mk x139.Name x139.Place x139.Period x139.RiseAt x139.FallAt x139.Source x139.Divide x139.Invert x139.EarlyLatency x139.LateLatency (IntKind.wrap IntKind.i64 ((IntKind.wrap IntKind.i64 ((IntKind.wrap IntKind.i64 ((IntKind.wrap IntKind.i64 ((IntKind.wrap IntKind.i64 ((IntKind.wrap IntKind.i64 ((IntKind.wrap IntKind.i64 ((IntKind.wrap IntKind.i64 ((IntKind.wrap IntKind.i64 ((IntKind.wrap IntKind.i64 (i8 + 1)) + 1)) + 1)) + 1)) + 1)) + 1)) + 1)) + 1)) + 1)) + 1))))))))))))))))))) else (k0 i8 i9 l10)) := rfl

def F_laws_markClockS (n : Nat) (a0_a : List S_Clock) (a1_k : Int) : Option (Int × (List S_Clock)) := (F_laws_markClockS_L1 n (fun i8 i9 l10 => (some (i8, l10))) n a1_k 0 a0_a)
set_option maxHeartbeats 40000000 in
theorem W_laws_markClockS {n : Nat} {a0_a : List S_Clock} {a1_k : Int} {r : Int × (List S_Clock)} {w : World} {v1 : Value} {B3 : Nat} (hF : F_laws_markClockS n a0_a a1_k = some r) (ha2 : ownR C_Clock w B3 (Iv 0 0) 45 a0_a v1) :
    Calls Tryd.prog 41 [v1, .int .i64 a1_k].toArray w (Ret fun u w2 => u = .int .i64 r.1 ∧ ownR C_Clock w2 B3 (Iv 0 0) 45 r.2 v1 ∧ But (pO v1) w w2) := by
  refine calls_of Tryd.func41 rfl Tryd.ntmps41 ?_
  have he0 : But (pO v1) w w := But.refl _ w
  have hbd5 := ownR.blk ha2
  unfold F_laws_markClockS at hF
  refine WC.seq ?_
  refine WC.region ?_
  refine TL.yld rfl rfl (yld_assign rfl rfl) ?_
  refine TL.done ?_
  refine NX.seq ?_
  refine WC.seq ?_
  refine WC.seq ?_
  refine WC.region ?_
  refine TL.yld rfl rfl (yld_assign rfl rfl) ?_
  refine TL.done ?_
  refine NX.seq ?_
  refine WC.block ?_
  refine WC.loop (fun m12 a wl => ∃ (i8 : Int) (i9 : Int) (l10 : List S_Clock), Kn 93 [(0, v1), (1, .int .i64 i8), (5, .int .i64 i9)] a ∧ But (pO v1) w wl ∧ w.heap.size ≤ wl.heap.size ∧ ownR C_Clock wl (B3) (Iv 0 0) 45 l10 v1 ∧ F_laws_markClockS_L1 n (fun i8 i9 l10 => (some (i8, l10))) m12 i8 i9 l10 = some r) n ?_ ?_
  · intro a hK; exact ⟨a1_k, 0, a0_a, hK.weaken ⟨rfl, rfl, rfl, trivial⟩, he0, Nat.le_refl _, ha2, hF⟩
  · rintro m12 a w6 ⟨i8, i9, l10, hK, he7, hz13, hs11, hF⟩
    revert hK; revert a; refine (?_ : WC _ _ _ _ _ _)
    cases m12 with
    | zero => rw [F_laws_markClockS_L1_z] at hF; cases hF
    | succ m12 =>
      rw [F_laws_markClockS_L1_s] at hF
      refine WC.seq ?_
      refine WC.seq ?_
      refine WC.region ?_
      refine TL.yld rfl rfl (yld_move rfl rfl) ?_
      refine TL.yld rfl rfl (yld_move rfl rfl) ?_
      refine TL.yld rfl rfl (yld_len_own (c := C_Clock) rfl Tryd.underlying25 rfl hs11) ?_
      refine TL.yld rfl rfl (yld_lss rfl rfl rfl) ?_
      refine TL.done ?_
      refine NX.seq ?_
      refine WC.cond rfl ?_ ?_
      · intro hc14
        replace hF := bif_t hc14 hF
        refine WC.skip' ?_
        refine NX.seq ?_
        refine WC.seq ?_
        refine WC.block ?_
        refine WC.seq ?_
        refine WC.region ?_
        refine TL.yld rfl rfl (yld_move rfl rfl) ?_
        refine TL.yld rfl rfl (yld_move rfl rfl) ?_
        refine TL.yld rfl rfl (yld_move rfl rfl) ?_
        obtain ⟨r15, hr16, hF⟩ := bsome hF
        refine TL.eff rfl rfl (eff_call rfl gf_70 rfl (W_laws_markText hr16)) ?_
        rintro _ w17 ⟨rfl, hx18⟩
        have he19 : But (pO v1) w w17 := But.ext he7 hx18
        have hs11 := ownR.ext hs11 hx18
        have hz20 := (hx18).size
        obtain ⟨x21, hy22, hF⟩ := bsome hF
        refine TL.ye rfl rfl (ye_index_own (c := C_Clock) rfl Tryd.underlying25 cn_45 rfl rfl hs11 hy22) ?_
        rintro _ ⟨g23, us25, rfl, hg24, hr26, hcl27⟩
        have hr26r := hr26
        obtain rfl := C_Clock_open hr26
        refine TL.yld rfl rfl (yld_fieldAddr rfl fo_45_0 rfl) ?_
        refine TL.eff rfl rfl (eff_store_own (c := C_Clock) (us' := [.string r15, .int .i64 x21.Place, .int .i64 x21.Period, .int .i64 x21.RiseAt, .int .i64 x21.FallAt, .int .i64 x21.Source, .int .i64 x21.Divide, .bool x21.Invert, .int .i64 x21.EarlyLatency, .int .i64 x21.LateLatency, .int .i64 x21.Uncertainty]) (y' := (S_Clock.mk r15 x21.Place x21.Period x21.RiseAt x21.FallAt x21.Source x21.Divide x21.Invert x21.EarlyLatency x21.LateLatency x21.Uncertainty)) 0 _ rfl rfl rfl hs11 hg24 hy22 rfl cn_9 rfl hr26r hcl27 rfl rfl C_Clock_mk (fun k h => absurd h.2 (Nat.not_lt_zero k))) ?_
        rintro _ w28 ⟨hu29, hs30⟩
        have he31 : But (pO v1) w w28 := But.upd he19 hu29 (Or.inl hg24)
        have hz32 := (hu29).size
        refine TL.done ?_
        refine NX.seq ?_
        refine WC.seq ?_
        refine WC.region ?_
        refine TL.yld rfl rfl (yld_move rfl rfl) ?_
        refine TL.yld rfl rfl (yld_add rfl rfl rfl) ?_
        refine TL.yld rfl rfl (yld_assign rfl rfl) ?_
        refine TL.done ?_
        refine NX.seq ?_
        refine WC.seq ?_
        refine WC.region ?_
        refine TL.yld rfl rfl (yld_move rfl rfl) ?_
        refine TL.yld rfl rfl (yld_move rfl rfl) ?_
        refine TL.yld rfl rfl (yld_move rfl rfl) ?_
        obtain ⟨x33, hy34, hF⟩ := bsome hF
        refine TL.ye rfl rfl (ye_index_own (c := C_Clock) rfl Tryd.underlying25 cn_45 rfl rfl hs30 hy34) ?_
        rintro _ ⟨g35, us37, rfl, hg36, hr38, hcl39⟩
        have hr38r := hr38
        obtain rfl := C_Clock_open hr38
        refine TL.yld rfl rfl (yld_fieldAddr rfl fo_45_1 rfl) ?_
        refine TL.eff rfl rfl (eff_store_own (c := C_Clock) (us' := [.string x33.Name, .int .i64 (IntKind.wrap IntKind.i64 (i8 + 1)), .int .i64 x33.Period, .int .i64 x33.RiseAt, .int .i64 x33.FallAt, .int .i64 x33.Source, .int .i64 x33.Divide, .bool x33.Invert, .int .i64 x33.EarlyLatency, .int .i64 x33.LateLatency, .int .i64 x33.Uncertainty]) (y' := (S_Clock.mk x33.Name (IntKind.wrap IntKind.i64 (i8 + 1)) x33.Period x33.RiseAt x33.FallAt x33.Source x33.Divide x33.Invert x33.EarlyLatency x33.LateLatency x33.Uncertainty)) 1 _ rfl rfl rfl hs30 hg36 hy34 rfl cn_2 rfl hr38r hcl39 rfl rfl C_Clock_mk (fun k h => absurd h.2 (Nat.not_lt_zero k))) ?_
        rintro _ w40 ⟨hu41, hs42⟩
        have he43 : But (pO v1) w w40 := But.upd he31 hu41 (Or.inl hg36)
        have hz44 := (hu41).size
        refine TL.done ?_
        refine NX.seq ?_
        refine WC.seq ?_
        refine WC.region ?_
        refine TL.yld rfl rfl (yld_move rfl rfl) ?_
        refine TL.yld rfl rfl (yld_add rfl rfl rfl) ?_
        refine TL.yld rfl rfl (yld_assign rfl rfl) ?_
        refine TL.done ?_
        refine NX.seq ?_
        refine WC.seq ?_
        refine WC.region ?_
        refine TL.yld rfl rfl (yld_move rfl rfl) ?_
        refine TL.yld rfl rfl (yld_move rfl rfl) ?_
        refine TL.yld rfl rfl (yld_move rfl rfl) ?_
        obtain ⟨x45, hy46, hF⟩ := bsome hF
        refine TL.ye rfl rfl (ye_index_own (c := C_Clock) rfl Tryd.underlying25 cn_45 rfl rfl hs42 hy46) ?_
        rintro _ ⟨g47, us49, rfl, hg48, hr50, hcl51⟩
        have hr50r := hr50
        obtain rfl := C_Clock_open hr50
        refine TL.yld rfl rfl (yld_fieldAddr rfl fo_45_2 rfl) ?_
        refine TL.eff rfl rfl (eff_store_own (c := C_Clock) (us' := [.string x45.Name, .int .i64 x45.Place, .int .i64 (IntKind.wrap IntKind.i64 ((IntKind.wrap IntKind.i64 (i8 + 1)) + 1)), .int .i64 x45.RiseAt, .int .i64 x45.FallAt, .int .i64 x45.Source, .int .i64 x45.Divide, .bool x45.Invert, .int .i64 x45.EarlyLatency, .int .i64 x45.LateLatency, .int .i64 x45.Uncertainty]) (y' := (S_Clock.mk x45.Name x45.Place (IntKind.wrap IntKind.i64 ((IntKind.wrap IntKind.i64 (i8 + 1)) + 1)) x45.RiseAt x45.FallAt x45.Source x45.Divide x45.Invert x45.EarlyLatency x45.LateLatency x45.Uncertainty)) 2 _ rfl rfl rfl hs42 hg48 hy46 rfl cn_2 rfl hr50r hcl51 rfl rfl C_Clock_mk (fun k h => absurd h.2 (Nat.not_lt_zero k))) ?_
        rintro _ w52 ⟨hu53, hs54⟩
        have he55 : But (pO v1) w w52 := But.upd he43 hu53 (Or.inl hg48)
        have hz56 := (hu53).size
        refine TL.done ?_
        refine NX.seq ?_
        refine WC.seq ?_
        refine WC.region ?_
        refine TL.yld rfl rfl (yld_move rfl rfl) ?_
        refine TL.yld rfl rfl (yld_add rfl rfl rfl) ?_
        refine TL.yld rfl rfl (yld_assign rfl rfl) ?_
        refine TL.done ?_
        refine NX.seq ?_
        refine WC.seq ?_
        refine WC.region ?_
        refine TL.yld rfl rfl (yld_move rfl rfl) ?_
        refine TL.yld rfl rfl (yld_move rfl rfl) ?_
        refine TL.yld rfl rfl (yld_move rfl rfl) ?_
        obtain ⟨x57, hy58, hF⟩ := bsome hF
        refine TL.ye rfl rfl (ye_index_own (c := C_Clock) rfl Tryd.underlying25 cn_45 rfl rfl hs54 hy58) ?_
        rintro _ ⟨g59, us61, rfl, hg60, hr62, hcl63⟩
        have hr62r := hr62
        obtain rfl := C_Clock_open hr62
        refine TL.yld rfl rfl (yld_fieldAddr rfl fo_45_3 rfl) ?_
        refine TL.eff rfl rfl (eff_store_own (c := C_Clock) (us' := [.string x57.Name, .int .i64 x57.Place, .int .i64 x57.Period, .int .i64 (IntKind.wrap IntKind.i64 ((IntKind.wrap IntKind.i64 ((IntKind.wrap IntKind.i64 (i8 + 1)) + 1)) + 1)), .int .i64 x57.FallAt, .int .i64 x57.Source, .int .i64 x57.Divide, .bool x57.Invert, .int .i64 x57.EarlyLatency, .int .i64 x57.LateLatency, .int .i64 x57.Uncertainty]) (y' := (S_Clock.mk x57.Name x57.Place x57.Period (IntKind.wrap IntKind.i64 ((IntKind.wrap IntKind.i64 ((IntKind.wrap IntKind.i64 (i8 + 1)) + 1)) + 1)) x57.FallAt x57.Source x57.Divide x57.Invert x57.EarlyLatency x57.LateLatency x57.Uncertainty)) 3 _ rfl rfl rfl hs54 hg60 hy58 rfl cn_2 rfl hr62r hcl63 rfl rfl C_Clock_mk (fun k h => absurd h.2 (Nat.not_lt_zero k))) ?_
        rintro _ w64 ⟨hu65, hs66⟩
        have he67 : But (pO v1) w w64 := But.upd he55 hu65 (Or.inl hg60)
        have hz68 := (hu65).size
        refine TL.done ?_
        refine NX.seq ?_
        refine WC.seq ?_
        refine WC.region ?_
        refine TL.yld rfl rfl (yld_move rfl rfl) ?_
        refine TL.yld rfl rfl (yld_add rfl rfl rfl) ?_
        refine TL.yld rfl rfl (yld_assign rfl rfl) ?_
        refine TL.done ?_
        refine NX.seq ?_
        refine WC.seq ?_
        refine WC.region ?_
        refine TL.yld rfl rfl (yld_move rfl rfl) ?_
        refine TL.yld rfl rfl (yld_move rfl rfl) ?_
        refine TL.yld rfl rfl (yld_move rfl rfl) ?_
        obtain ⟨x69, hy70, hF⟩ := bsome hF
        refine TL.ye rfl rfl (ye_index_own (c := C_Clock) rfl Tryd.underlying25 cn_45 rfl rfl hs66 hy70) ?_
        rintro _ ⟨g71, us73, rfl, hg72, hr74, hcl75⟩
        have hr74r := hr74
        obtain rfl := C_Clock_open hr74
        refine TL.yld rfl rfl (yld_fieldAddr rfl fo_45_4 rfl) ?_
        refine TL.eff rfl rfl (eff_store_own (c := C_Clock) (us' := [.string x69.Name, .int .i64 x69.Place, .int .i64 x69.Period, .int .i64 x69.RiseAt, .int .i64 (IntKind.wrap IntKind.i64 ((IntKind.wrap IntKind.i64 ((IntKind.wrap IntKind.i64 ((IntKind.wrap IntKind.i64 (i8 + 1)) + 1)) + 1)) + 1)), .int .i64 x69.Source, .int .i64 x69.Divide, .bool x69.Invert, .int .i64 x69.EarlyLatency, .int .i64 x69.LateLatency, .int .i64 x69.Uncertainty]) (y' := (S_Clock.mk x69.Name x69.Place x69.Period x69.RiseAt (IntKind.wrap IntKind.i64 ((IntKind.wrap IntKind.i64 ((IntKind.wrap IntKind.i64 ((IntKind.wrap IntKind.i64 (i8 + 1)) + 1)) + 1)) + 1)) x69.Source x69.Divide x69.Invert x69.EarlyLatency x69.LateLatency x69.Uncertainty)) 4 _ rfl rfl rfl hs66 hg72 hy70 rfl cn_2 rfl hr74r hcl75 rfl rfl C_Clock_mk (fun k h => absurd h.2 (Nat.not_lt_zero k))) ?_
        rintro _ w76 ⟨hu77, hs78⟩
        have he79 : But (pO v1) w w76 := But.upd he67 hu77 (Or.inl hg72)
        have hz80 := (hu77).size
        refine TL.done ?_
        refine NX.seq ?_
        refine WC.seq ?_
        refine WC.region ?_
        refine TL.yld rfl rfl (yld_move rfl rfl) ?_
        refine TL.yld rfl rfl (yld_add rfl rfl rfl) ?_
        refine TL.yld rfl rfl (yld_assign rfl rfl) ?_
        refine TL.done ?_
        refine NX.seq ?_
        refine WC.seq ?_
        refine WC.region ?_
        refine TL.yld rfl rfl (yld_move rfl rfl) ?_
        refine TL.yld rfl rfl (yld_move rfl rfl) ?_
        refine TL.yld rfl rfl (yld_move rfl rfl) ?_
        obtain ⟨x81, hy82, hF⟩ := bsome hF
        refine TL.ye rfl rfl (ye_index_own (c := C_Clock) rfl Tryd.underlying25 cn_45 rfl rfl hs78 hy82) ?_
        rintro _ ⟨g83, us85, rfl, hg84, hr86, hcl87⟩
        have hr86r := hr86
        obtain rfl := C_Clock_open hr86
        refine TL.yld rfl rfl (yld_fieldAddr rfl fo_45_5 rfl) ?_
        refine TL.eff rfl rfl (eff_store_own (c := C_Clock) (us' := [.string x81.Name, .int .i64 x81.Place, .int .i64 x81.Period, .int .i64 x81.RiseAt, .int .i64 x81.FallAt, .int .i64 (IntKind.wrap IntKind.i64 ((IntKind.wrap IntKind.i64 ((IntKind.wrap IntKind.i64 ((IntKind.wrap IntKind.i64 ((IntKind.wrap IntKind.i64 (i8 + 1)) + 1)) + 1)) + 1)) + 1)), .int .i64 x81.Divide, .bool x81.Invert, .int .i64 x81.EarlyLatency, .int .i64 x81.LateLatency, .int .i64 x81.Uncertainty]) (y' := (S_Clock.mk x81.Name x81.Place x81.Period x81.RiseAt x81.FallAt (IntKind.wrap IntKind.i64 ((IntKind.wrap IntKind.i64 ((IntKind.wrap IntKind.i64 ((IntKind.wrap IntKind.i64 ((IntKind.wrap IntKind.i64 (i8 + 1)) + 1)) + 1)) + 1)) + 1)) x81.Divide x81.Invert x81.EarlyLatency x81.LateLatency x81.Uncertainty)) 5 _ rfl rfl rfl hs78 hg84 hy82 rfl cn_2 rfl hr86r hcl87 rfl rfl C_Clock_mk (fun k h => absurd h.2 (Nat.not_lt_zero k))) ?_
        rintro _ w88 ⟨hu89, hs90⟩
        have he91 : But (pO v1) w w88 := But.upd he79 hu89 (Or.inl hg84)
        have hz92 := (hu89).size
        refine TL.done ?_
        refine NX.seq ?_
        refine WC.seq ?_
        refine WC.region ?_
        refine TL.yld rfl rfl (yld_move rfl rfl) ?_
        refine TL.yld rfl rfl (yld_add rfl rfl rfl) ?_
        refine TL.yld rfl rfl (yld_assign rfl rfl) ?_
        refine TL.done ?_
        refine NX.seq ?_
        refine WC.seq ?_
        refine WC.region ?_
        refine TL.yld rfl rfl (yld_move rfl rfl) ?_
        refine TL.yld rfl rfl (yld_move rfl rfl) ?_
        refine TL.yld rfl rfl (yld_move rfl rfl) ?_
        obtain ⟨x93, hy94, hF⟩ := bsome hF
        refine TL.ye rfl rfl (ye_index_own (c := C_Clock) rfl Tryd.underlying25 cn_45 rfl rfl hs90 hy94) ?_
        rintro _ ⟨g95, us97, rfl, hg96, hr98, hcl99⟩
        have hr98r := hr98
        obtain rfl := C_Clock_open hr98
        refine TL.yld rfl rfl (yld_fieldAddr rfl fo_45_6 rfl) ?_
        refine TL.eff rfl rfl (eff_store_own (c := C_Clock) (us' := [.string x93.Name, .int .i64 x93.Place, .int .i64 x93.Period, .int .i64 x93.RiseAt, .int .i64 x93.FallAt, .int .i64 x93.Source, .int .i64 (IntKind.wrap IntKind.i64 ((IntKind.wrap IntKind.i64 ((IntKind.wrap IntKind.i64 ((IntKind.wrap IntKind.i64 ((IntKind.wrap IntKind.i64 ((IntKind.wrap IntKind.i64 (i8 + 1)) + 1)) + 1)) + 1)) + 1)) + 1)), .bool x93.Invert, .int .i64 x93.EarlyLatency, .int .i64 x93.LateLatency, .int .i64 x93.Uncertainty]) (y' := (S_Clock.mk x93.Name x93.Place x93.Period x93.RiseAt x93.FallAt x93.Source (IntKind.wrap IntKind.i64 ((IntKind.wrap IntKind.i64 ((IntKind.wrap IntKind.i64 ((IntKind.wrap IntKind.i64 ((IntKind.wrap IntKind.i64 ((IntKind.wrap IntKind.i64 (i8 + 1)) + 1)) + 1)) + 1)) + 1)) + 1)) x93.Invert x93.EarlyLatency x93.LateLatency x93.Uncertainty)) 6 _ rfl rfl rfl hs90 hg96 hy94 rfl cn_2 rfl hr98r hcl99 rfl rfl C_Clock_mk (fun k h => absurd h.2 (Nat.not_lt_zero k))) ?_
        rintro _ w100 ⟨hu101, hs102⟩
        have he103 : But (pO v1) w w100 := But.upd he91 hu101 (Or.inl hg96)
        have hz104 := (hu101).size
        refine TL.done ?_
        refine NX.seq ?_
        refine WC.seq ?_
        refine WC.region ?_
        refine TL.yld rfl rfl (yld_move rfl rfl) ?_
        refine TL.yld rfl rfl (yld_add rfl rfl rfl) ?_
        refine TL.yld rfl rfl (yld_assign rfl rfl) ?_
        refine TL.done ?_
        refine NX.seq ?_
        refine WC.seq ?_
        refine WC.region ?_
        refine TL.yld rfl rfl (yld_move rfl rfl) ?_
        refine TL.yld rfl rfl (yld_move rfl rfl) ?_
        refine TL.yld rfl rfl (yld_move rfl rfl) ?_
        refine TL.yld rfl rfl (yld_rem rfl rfl rfl (by decide)) ?_
        refine TL.yld rfl rfl (yld_eql rfl rfl rfl) ?_
        obtain ⟨x105, hy106, hF⟩ := bsome hF
        refine TL.ye rfl rfl (ye_index_own (c := C_Clock) rfl Tryd.underlying25 cn_45 rfl rfl hs102 hy106) ?_
        rintro _ ⟨g107, us109, rfl, hg108, hr110, hcl111⟩
        have hr110r := hr110
        obtain rfl := C_Clock_open hr110
        refine TL.yld rfl rfl (yld_fieldAddr rfl fo_45_7 rfl) ?_
        refine TL.eff rfl rfl (eff_store_own (c := C_Clock) (us' := [.string x105.Name, .int .i64 x105.Place, .int .i64 x105.Period, .int .i64 x105.RiseAt, .int .i64 x105.FallAt, .int .i64 x105.Source, .int .i64 x105.Divide, .bool (((Int.tmod (IntKind.wrap IntKind.i64 ((IntKind.wrap IntKind.i64 ((IntKind.wrap IntKind.i64 ((IntKind.wrap IntKind.i64 ((IntKind.wrap IntKind.i64 ((IntKind.wrap IntKind.i64 ((IntKind.wrap IntKind.i64 (i8 + 1)) + 1)) + 1)) + 1)) + 1)) + 1)) + 1)) 3) == 0)), .int .i64 x105.EarlyLatency, .int .i64 x105.LateLatency, .int .i64 x105.Uncertainty]) (y' := (S_Clock.mk x105.Name x105.Place x105.Period x105.RiseAt x105.FallAt x105.Source x105.Divide (((Int.tmod (IntKind.wrap IntKind.i64 ((IntKind.wrap IntKind.i64 ((IntKind.wrap IntKind.i64 ((IntKind.wrap IntKind.i64 ((IntKind.wrap IntKind.i64 ((IntKind.wrap IntKind.i64 ((IntKind.wrap IntKind.i64 (i8 + 1)) + 1)) + 1)) + 1)) + 1)) + 1)) + 1)) 3) == 0)) x105.EarlyLatency x105.LateLatency x105.Uncertainty)) 7 _ rfl rfl rfl hs102 hg108 hy106 rfl cn_4 rfl hr110r hcl111 rfl rfl C_Clock_mk (fun k h => absurd h.2 (Nat.not_lt_zero k))) ?_
        rintro _ w112 ⟨hu113, hs114⟩
        have he115 : But (pO v1) w w112 := But.upd he103 hu113 (Or.inl hg108)
        have hz116 := (hu113).size
        refine TL.done ?_
        refine NX.seq ?_
        refine WC.seq ?_
        refine WC.region ?_
        refine TL.yld rfl rfl (yld_move rfl rfl) ?_
        refine TL.yld rfl rfl (yld_add rfl rfl rfl) ?_
        refine TL.yld rfl rfl (yld_assign rfl rfl) ?_
        refine TL.done ?_
        refine NX.seq ?_
        refine WC.seq ?_
        refine WC.region ?_
        refine TL.yld rfl rfl (yld_move rfl rfl) ?_
        refine TL.yld rfl rfl (yld_move rfl rfl) ?_
        refine TL.yld rfl rfl (yld_move rfl rfl) ?_
        obtain ⟨x117, hy118, hF⟩ := bsome hF
        refine TL.ye rfl rfl (ye_index_own (c := C_Clock) rfl Tryd.underlying25 cn_45 rfl rfl hs114 hy118) ?_
        rintro _ ⟨g119, us121, rfl, hg120, hr122, hcl123⟩
        have hr122r := hr122
        obtain rfl := C_Clock_open hr122
        refine TL.yld rfl rfl (yld_fieldAddr rfl fo_45_8 rfl) ?_
        refine TL.eff rfl rfl (eff_store_own (c := C_Clock) (us' := [.string x117.Name, .int .i64 x117.Place, .int .i64 x117.Period, .int .i64 x117.RiseAt, .int .i64 x117.FallAt, .int .i64 x117.Source, .int .i64 x117.Divide, .bool x117.Invert, .int .i64 (IntKind.wrap IntKind.i64 ((IntKind.wrap IntKind.i64 ((IntKind.wrap IntKind.i64 ((IntKind.wrap IntKind.i64 ((IntKind.wrap IntKind.i64 ((IntKind.wrap IntKind.i64 ((IntKind.wrap IntKind.i64 ((IntKind.wrap IntKind.i64 (i8 + 1)) + 1)) + 1)) + 1)) + 1)) + 1)) + 1)) + 1)), .int .i64 x117.LateLatency, .int .i64 x117.Uncertainty]) (y' := (S_Clock.mk x117.Name x117.Place x117.Period x117.RiseAt x117.FallAt x117.Source x117.Divide x117.Invert (IntKind.wrap IntKind.i64 ((IntKind.wrap IntKind.i64 ((IntKind.wrap IntKind.i64 ((IntKind.wrap IntKind.i64 ((IntKind.wrap IntKind.i64 ((IntKind.wrap IntKind.i64 ((IntKind.wrap IntKind.i64 ((IntKind.wrap IntKind.i64 (i8 + 1)) + 1)) + 1)) + 1)) + 1)) + 1)) + 1)) + 1)) x117.LateLatency x117.Uncertainty)) 8 _ rfl rfl rfl hs114 hg120 hy118 rfl cn_2 rfl hr122r hcl123 rfl rfl C_Clock_mk (fun k h => absurd h.2 (Nat.not_lt_zero k))) ?_
        rintro _ w124 ⟨hu125, hs126⟩
        have he127 : But (pO v1) w w124 := But.upd he115 hu125 (Or.inl hg120)
        have hz128 := (hu125).size
        refine TL.done ?_
        refine NX.seq ?_
        refine WC.seq ?_
        refine WC.region ?_
        refine TL.yld rfl rfl (yld_move rfl rfl) ?_
        refine TL.yld rfl rfl (yld_add rfl rfl rfl) ?_
        refine TL.yld rfl rfl (yld_assign rfl rfl) ?_
        refine TL.done ?_
        refine NX.seq ?_
        refine WC.seq ?_
        refine WC.region ?_
        refine TL.yld rfl rfl (yld_move rfl rfl) ?_
        refine TL.yld rfl rfl (yld_move rfl rfl) ?_
        refine TL.yld rfl rfl (yld_move rfl rfl) ?_
        obtain ⟨x129, hy130, hF⟩ := bsome hF
        refine TL.ye rfl rfl (ye_index_own (c := C_Clock) rfl Tryd.underlying25 cn_45 rfl rfl hs126 hy130) ?_
        rintro _ ⟨g131, us133, rfl, hg132, hr134, hcl135⟩
        have hr134r := hr134
        obtain rfl := C_Clock_open hr134
        refine TL.yld rfl rfl (yld_fieldAddr rfl fo_45_9 rfl) ?_
        refine TL.eff rfl rfl (eff_store_own (c := C_Clock) (us' := [.string x129.Name, .int .i64 x129.Place, .int .i64 x129.Period, .int .i64 x129.RiseAt, .int .i64 x129.FallAt, .int .i64 x129.Source, .int .i64 x129.Divide, .bool x129.Invert, .int .i64 x129.EarlyLatency, .int .i64 (IntKind.wrap IntKind.i64 ((IntKind.wrap IntKind.i64 ((IntKind.wrap IntKind.i64 ((IntKind.wrap IntKind.i64 ((IntKind.wrap IntKind.i64 ((IntKind.wrap IntKind.i64 ((IntKind.wrap IntKind.i64 ((IntKind.wrap IntKind.i64 ((IntKind.wrap IntKind.i64 (i8 + 1)) + 1)) + 1)) + 1)) + 1)) + 1)) + 1)) + 1)) + 1)), .int .i64 x129.Uncertainty]) (y' := (S_Clock.mk x129.Name x129.Place x129.Period x129.RiseAt x129.FallAt x129.Source x129.Divide x129.Invert x129.EarlyLatency (IntKind.wrap IntKind.i64 ((IntKind.wrap IntKind.i64 ((IntKind.wrap IntKind.i64 ((IntKind.wrap IntKind.i64 ((IntKind.wrap IntKind.i64 ((IntKind.wrap IntKind.i64 ((IntKind.wrap IntKind.i64 ((IntKind.wrap IntKind.i64 ((IntKind.wrap IntKind.i64 (i8 + 1)) + 1)) + 1)) + 1)) + 1)) + 1)) + 1)) + 1)) + 1)) x129.Uncertainty)) 9 _ rfl rfl rfl hs126 hg132 hy130 rfl cn_2 rfl hr134r hcl135 rfl rfl C_Clock_mk (fun k h => absurd h.2 (Nat.not_lt_zero k))) ?_
        rintro _ w136 ⟨hu137, hs138⟩
        have he139 : But (pO v1) w w136 := But.upd he127 hu137 (Or.inl hg132)
        have hz140 := (hu137).size
        refine TL.done ?_
        refine NX.seq ?_
        refine WC.seq ?_
        refine WC.region ?_
        refine TL.yld rfl rfl (yld_move rfl rfl) ?_
        refine TL.yld rfl rfl (yld_add rfl rfl rfl) ?_
        refine TL.yld rfl rfl (yld_assign rfl rfl) ?_
        refine TL.done ?_
        refine NX.seq ?_
        refine WC.seq ?_
        refine WC.region ?_
        refine TL.yld rfl rfl (yld_move rfl rfl) ?_
        refine TL.yld rfl rfl (yld_move rfl rfl) ?_
        refine TL.yld rfl rfl (yld_move rfl rfl) ?_
        obtain ⟨x141, hy142, hF⟩ := bsome hF
        refine TL.ye rfl rfl (ye_index_own (c := C_Clock) rfl Tryd.underlying25 cn_45 rfl rfl hs138 hy142) ?_
        rintro _ ⟨g143, us145, rfl, hg144, hr146, hcl147⟩
        have hr146r := hr146
        obtain rfl := C_Clock_open hr146
        refine TL.yld rfl rfl (yld_fieldAddr rfl fo_45_10 rfl) ?_
        refine TL.eff rfl rfl (eff_store_own (c := C_Clock) (us' := [.string x141.Name, .int .i64 x141.Place, .int .i64 x141.Period, .int .i64 x141.RiseAt, .int .i64 x141.FallAt, .int .i64 x141.Source, .int .i64 x141.Divide, .bool x141.Invert, .int .i64 x141.EarlyLatency, .int .i64 x141.LateLatency, .int .i64 (IntKind.wrap IntKind.i64 ((IntKind.wrap IntKind.i64 ((IntKind.wrap IntKind.i64 ((IntKind.wrap IntKind.i64 ((IntKind.wrap IntKind.i64 ((IntKind.wrap IntKind.i64 ((IntKind.wrap IntKind.i64 ((IntKind.wrap IntKind.i64 ((IntKind.wrap IntKind.i64 ((IntKind.wrap IntKind.i64 (i8 + 1)) + 1)) + 1)) + 1)) + 1)) + 1)) + 1)) + 1)) + 1)) + 1))]) (y' := (S_Clock.mk x141.Name x141.Place x141.Period x141.RiseAt x141.FallAt x141.Source x141.Divide x141.Invert x141.EarlyLatency x141.LateLatency (IntKind.wrap IntKind.i64 ((IntKind.wrap IntKind.i64 ((IntKind.wrap IntKind.i64 ((IntKind.wrap IntKind.i64 ((IntKind.wrap IntKind.i64 ((IntKind.wrap IntKind.i64 ((IntKind.wrap IntKind.i64 ((IntKind.wrap IntKind.i64 ((IntKind.wrap IntKind.i64 ((IntKind.wrap IntKind.i64 (i8 + 1)) + 1)) + 1)) + 1)) + 1)) + 1)) + 1)) + 1)) + 1)) + 1)))) 10 _ rfl rfl rfl hs138 hg144 hy142 rfl cn_2 rfl hr146r hcl147 rfl rfl C_Clock_mk (fun k h => absurd h.2 (Nat.not_lt_zero k))) ?_
        rintro _ w148 ⟨hu149, hs150⟩
        have he151 : But (pO v1) w w148 := But.upd he139 hu149 (Or.inl hg144)
        have hz152 := (hu149).size
        refine TL.done ?_
        refine NX.seq ?_
        refine WC.region ?_
        refine TL.yld rfl rfl (yld_move rfl rfl) ?_
        refine TL.yld rfl rfl (yld_add rfl rfl rfl) ?_
        refine TL.yld rfl rfl (yld_assign rfl rfl) ?_
        refine TL.done ?_
        refine NX.blk_n ?_
        refine NX.seq ?_
        refine WC.region ?_
        refine TL.yld rfl rfl (yld_move rfl rfl) ?_
        refine TL.yld rfl rfl (yld_add rfl rfl rfl) ?_
        refine TL.yld rfl rfl (yld_assign rfl rfl) ?_
        refine TL.done ?_
        refine NX.then_n ?_
        intro a hK; exact ⟨m12, Nat.lt_succ_self m12, (IntKind.wrap IntKind.i64 ((IntKind.wrap IntKind.i64 ((IntKind.wrap IntKind.i64 ((IntKind.wrap IntKind.i64 ((IntKind.wrap IntKind.i64 ((IntKind.wrap IntKind.i64 ((IntKind.wrap IntKind.i64 ((IntKind.wrap IntKind.i64 ((IntKind.wrap IntKind.i64 ((IntKind.wrap IntKind.i64 ((IntKind.wrap IntKind.i64 (i8 + 1)) + 1)) + 1)) + 1)) + 1)) + 1)) + 1)) + 1)) + 1)) + 1)) + 1)), (IntKind.wrap IntKind.i64 (i9 + 1)), ((((((((((((((((((((((l10.set (i9).toNat ((S_Clock.mk r15 x21.Place x21.Period x21.RiseAt x21.FallAt x21.Source x21.Divide x21.Invert x21.EarlyLatency x21.LateLatency x21.Uncertainty)))).set (i9).toNat ((S_Clock.mk x33.Name (IntKind.wrap IntKind.i64 (i8 + 1)) x33.Period x33.RiseAt x33.FallAt x33.Source x33.Divide x33.Invert x33.EarlyLatency x33.LateLatency x33.Uncertainty)))).set (i9).toNat ((S_Clock.mk x45.Name x45.Place (IntKind.wrap IntKind.i64 ((IntKind.wrap IntKind.i64 (i8 + 1)) + 1)) x45.RiseAt x45.FallAt x45.Source x45.Divide x45.Invert x45.EarlyLatency x45.LateLatency x45.Uncertainty)))).set (i9).toNat ((S_Clock.mk x57.Name x57.Place x57.Period (IntKind.wrap IntKind.i64 ((IntKind.wrap IntKind.i64 ((IntKind.wrap IntKind.i64 (i8 + 1)) + 1)) + 1)) x57.FallAt x57.Source x57.Divide x57.Invert x57.EarlyLatency x57.LateLatency x57.Uncertainty)))).set (i9).toNat ((S_Clock.mk x69.Name x69.Place x69.Period x69.RiseAt (IntKind.wrap IntKind.i64 ((IntKind.wrap IntKind.i64 ((IntKind.wrap IntKind.i64 ((IntKind.wrap IntKind.i64 (i8 + 1)) + 1)) + 1)) + 1)) x69.Source x69.Divide x69.Invert x69.EarlyLatency x69.LateLatency x69.Uncertainty)))).set (i9).toNat ((S_Clock.mk x81.Name x81.Place x81.Period x81.RiseAt x81.FallAt (IntKind.wrap IntKind.i64 ((IntKind.wrap IntKind.i64 ((IntKind.wrap IntKind.i64 ((IntKind.wrap IntKind.i64 ((IntKind.wrap IntKind.i64 (i8 + 1)) + 1)) + 1)) + 1)) + 1)) x81.Divide x81.Invert x81.EarlyLatency x81.LateLatency x81.Uncertainty)))).set (i9).toNat ((S_Clock.mk x93.Name x93.Place x93.Period x93.RiseAt x93.FallAt x93.Source (IntKind.wrap IntKind.i64 ((IntKind.wrap IntKind.i64 ((IntKind.wrap IntKind.i64 ((IntKind.wrap IntKind.i64 ((IntKind.wrap IntKind.i64 ((IntKind.wrap IntKind.i64 (i8 + 1)) + 1)) + 1)) + 1)) + 1)) + 1)) x93.Invert x93.EarlyLatency x93.LateLatency x93.Uncertainty)))).set (i9).toNat ((S_Clock.mk x105.Name x105.Place x105.Period x105.RiseAt x105.FallAt x105.Source x105.Divide (((Int.tmod (IntKind.wrap IntKind.i64 ((IntKind.wrap IntKind.i64 ((IntKind.wrap IntKind.i64 ((IntKind.wrap IntKind.i64 ((IntKind.wrap IntKind.i64 ((IntKind.wrap IntKind.i64 ((IntKind.wrap IntKind.i64 (i8 + 1)) + 1)) + 1)) + 1)) + 1)) + 1)) + 1)) 3) == 0)) x105.EarlyLatency x105.LateLatency x105.Uncertainty)))).set (i9).toNat ((S_Clock.mk x117.Name x117.Place x117.Period x117.RiseAt x117.FallAt x117.Source x117.Divide x117.Invert (IntKind.wrap IntKind.i64 ((IntKind.wrap IntKind.i64 ((IntKind.wrap IntKind.i64 ((IntKind.wrap IntKind.i64 ((IntKind.wrap IntKind.i64 ((IntKind.wrap IntKind.i64 ((IntKind.wrap IntKind.i64 ((IntKind.wrap IntKind.i64 (i8 + 1)) + 1)) + 1)) + 1)) + 1)) + 1)) + 1)) + 1)) x117.LateLatency x117.Uncertainty)))).set (i9).toNat ((S_Clock.mk x129.Name x129.Place x129.Period x129.RiseAt x129.FallAt x129.Source x129.Divide x129.Invert x129.EarlyLatency (IntKind.wrap IntKind.i64 ((IntKind.wrap IntKind.i64 ((IntKind.wrap IntKind.i64 ((IntKind.wrap IntKind.i64 ((IntKind.wrap IntKind.i64 ((IntKind.wrap IntKind.i64 ((IntKind.wrap IntKind.i64 ((IntKind.wrap IntKind.i64 ((IntKind.wrap IntKind.i64 (i8 + 1)) + 1)) + 1)) + 1)) + 1)) + 1)) + 1)) + 1)) + 1)) x129.Uncertainty)))).set (i9).toNat ((S_Clock.mk x141.Name x141.Place x141.Period x141.RiseAt x141.FallAt x141.Source x141.Divide x141.Invert x141.EarlyLatency x141.LateLatency (IntKind.wrap IntKind.i64 ((IntKind.wrap IntKind.i64 ((IntKind.wrap IntKind.i64 ((IntKind.wrap IntKind.i64 ((IntKind.wrap IntKind.i64 ((IntKind.wrap IntKind.i64 ((IntKind.wrap IntKind.i64 ((IntKind.wrap IntKind.i64 ((IntKind.wrap IntKind.i64 ((IntKind.wrap IntKind.i64 (i8 + 1)) + 1)) + 1)) + 1)) + 1)) + 1)) + 1)) + 1)) + 1)) + 1)))))), hK.weaken ⟨rfl, rfl, rfl, trivial⟩, he151, (by omega), hs150, hF⟩
      · intro hc153
        replace hF := bif_f hc153 hF
        refine WC.exit' ?_
        refine NX.then_e ?_
        refine NX.then_e ?_
        refine NX.blk_hit ?_
        refine NX.seq ?_
        refine WC.seq ?_
        refine WC.region ?_
        refine TL.yld rfl rfl (yld_move rfl rfl) ?_
        refine TL.yld rfl rfl (yld_assign rfl rfl) ?_
        refine TL.done ?_
        refine NX.seq ?_
        refine WC.ret' ?_
        obtain rfl := Option.some.inj hF
        exact NX.end (rs := [.tmp 4]) (vs := [.int .i64 i8]) rfl ⟨rfl, trivial⟩ ⟨_, rfl, rfl, hs11, he7⟩

-- loop.example/g00861/laws.markInt64S
def F_laws_markInt64S_L1 (k0 : Int → Int → (List Int) → Option (Int × (List Int))) : Nat → Int → Int → (List Int) → Option (Int × (List Int))
  | 0 => fun _ _ _ => none
  | m + 1 => fun i8 i9 l10 => (bif decide (i9 < (l10.length : Int)) then (Option.bind (getI l10 i9) fun x13 => (F_laws_markInt64S_L1 k0 m (IntKind.wrap IntKind.i64 (i8 + 1)) (IntKind.wrap IntKind.i64 (i9 + 1)) ((l10.set (i9).toNat i8)))) else (k0 i8 i9 l10))
theorem F_laws_markInt64S_L1_z (k0 : Int → Int → (List Int) → Option (Int × (List Int))) (i8 : Int) (i9 : Int) (l10 : List Int) : F_laws_markInt64S_L1 k0 0 i8 i9 l10 = none := rfl
theorem F_laws_markInt64S_L1_s (m : Nat) (k0 : Int → Int → (List Int) → Option (Int × (List Int))) (i8 : Int) (i9 : Int) (l10 : List Int) : F_laws_markInt64S_L1 k0 (m + 1) i8 i9 l10 = (bif decide (i9 < (l10.length : Int)) then (Option.bind (getI l10 i9) fun x13 => (F_laws_markInt64S_L1 k0 m (IntKind.wrap IntKind.i64 (i8 + 1)) (IntKind.wrap IntKind.i64 (i9 + 1)) ((l10.set (i9).toNat i8)))) else (k0 i8 i9 l10)) := rfl

def F_laws_markInt64S (n : Nat) (a0_a : List Int) (a1_k : Int) : Option (Int × (List Int)) := (F_laws_markInt64S_L1 (fun i8 i9 l10 => (some (i8, l10))) n a1_k 0 a0_a)
set_option maxHeartbeats 40000000 in
theorem W_laws_markInt64S {n : Nat} {a0_a : List Int} {a1_k : Int} {r : Int × (List Int)} {w : World} {v1 : Value} {B3 : Nat} (hF : F_laws_markInt64S n a0_a a1_k = some r) (ha2 : ownR (cInt .i64) w B3 (Iv 0 0) 2 a0_a v1) :
    Calls Tryd.prog 42 [v1, .int .i64 a1_k].toArray w (Ret fun u w2 => u = .int .i64 r.1 ∧ ownR (cInt .i64) w2 B3 (Iv 0 0) 2 r.2 v1 ∧ But (pO v1) w w2) := by
  refine calls_of Tryd.func42 rfl Tryd.ntmps42 ?_
  have he0 : But (pO v1) w w := But.refl _ w
  have hbd5 := ownR.blk ha2
  unfold F_laws_markInt64S at hF
  refine WC.seq ?_
  refine WC.region ?_
  refine TL.yld rfl rfl (yld_assign rfl rfl) ?_
  refine TL.done ?_
  refine NX.seq ?_
  refine WC.seq ?_
  refine WC.seq ?_
  refine WC.region ?_
  refine TL.yld rfl rfl (yld_assign rfl rfl) ?_
  refine TL.done ?_
  refine NX.seq ?_
  refine WC.block ?_
  refine WC.loop (fun m12 a wl => ∃ (i8 : Int) (i9 : Int) (l10 : List Int), Kn 19 [(0, v1), (1, .int .i64 i8), (5, .int .i64 i9)] a ∧ But (pO v1) w wl ∧ w.heap.size ≤ wl.heap.size ∧ ownR (cInt .i64) wl (B3) (Iv 0 0) 2 l10 v1 ∧ F_laws_markInt64S_L1 (fun i8 i9 l10 => (some (i8, l10))) m12 i8 i9 l10 = some r) n ?_ ?_
  · intro a hK; exact ⟨a1_k, 0, a0_a, hK.weaken ⟨rfl, rfl, rfl, trivial⟩, he0, Nat.le_refl _, ha2, hF⟩
  · rintro m12 a w6 ⟨i8, i9, l10, hK, he7, hz13, hs11, hF⟩
    revert hK; revert a; refine (?_ : WC _ _ _ _ _ _)
    cases m12 with
    | zero => rw [F_laws_markInt64S_L1_z] at hF; cases hF
    | succ m12 =>
      rw [F_laws_markInt64S_L1_s] at hF
      refine WC.seq ?_
      refine WC.seq ?_
      refine WC.region ?_
      refine TL.yld rfl rfl (yld_move rfl rfl) ?_
      refine TL.yld rfl rfl (yld_move rfl rfl) ?_
      refine TL.yld rfl rfl (yld_len_own (c := (cInt .i64)) rfl Tryd.underlying46 rfl hs11) ?_
      refine TL.yld rfl rfl (yld_lss rfl rfl rfl) ?_
      refine TL.done ?_
      refine NX.seq ?_
      refine WC.cond rfl ?_ ?_
      · intro hc14
        replace hF := bif_t hc14 hF
        refine WC.skip' ?_
        refine NX.seq ?_
        refine WC.seq ?_
        refine WC.block ?_
        refine WC.seq ?_
        refine WC.region ?_
        refine TL.yld rfl rfl (yld_move rfl rfl) ?_
        refine TL.yld rfl rfl (yld_move rfl rfl) ?_
        refine TL.yld rfl rfl (yld_move rfl rfl) ?_
        obtain ⟨x15, hy16, hF⟩ := bsome hF
        refine TL.ye rfl rfl (ye_index_own (c := (cInt .i64)) rfl Tryd.underlying46 cn_2 rfl rfl hs11 hy16) ?_
        rintro _ ⟨g17, us19, rfl, hg18, hr20, hcl21⟩
        have hr20r := hr20
        obtain rfl := hr20
        refine TL.eff rfl rfl (eff_store_own (c := (cInt .i64)) (us' := [.int .i64 i8]) (y' := i8) 0 _ rfl rfl rfl hs11 hg18 hy16 rfl cn_2 rfl hr20r hcl21 rfl rfl rfl (fun k h => absurd h.2 (Nat.not_lt_zero k))) ?_
        rintro _ w22 ⟨hu23, hs24⟩
        have he25 : But (pO v1) w w22 := But.upd he7 hu23 (Or.inl hg18)
        have hz26 := (hu23).size
        refine TL.done ?_
        refine NX.seq ?_
        refine WC.region ?_
        refine TL.yld rfl rfl (yld_move rfl rfl) ?_
        refine TL.yld rfl rfl (yld_add rfl rfl rfl) ?_
        refine TL.yld rfl rfl (yld_assign rfl rfl) ?_
        refine TL.done ?_
        refine NX.blk_n ?_
        refine NX.seq ?_
        refine WC.region ?_
        refine TL.yld rfl rfl (yld_move rfl rfl) ?_
        refine TL.yld rfl rfl (yld_add rfl rfl rfl) ?_
        refine TL.yld rfl rfl (yld_assign rfl rfl) ?_
        refine TL.done ?_
        refine NX.then_n ?_
        intro a hK; exact ⟨m12, Nat.lt_succ_self m12, (IntKind.wrap IntKind.i64 (i8 + 1)), (IntKind.wrap IntKind.i64 (i9 + 1)), ((l10.set (i9).toNat i8)), hK.weaken ⟨rfl, rfl, rfl, trivial⟩, he25, (by omega), hs24, hF⟩
      · intro hc27
        replace hF := bif_f hc27 hF
        refine WC.exit' ?_
        refine NX.then_e ?_
        refine NX.then_e ?_
        refine NX.blk_hit ?_
        refine NX.seq ?_
        refine WC.seq ?_
        refine WC.region ?_
        refine TL.yld rfl rfl (yld_move rfl rfl) ?_
        refine TL.yld rfl rfl (yld_assign rfl rfl) ?_
        refine TL.done ?_
        refine NX.seq ?_
        refine WC.ret' ?_
        obtain rfl := Option.some.inj hF
        exact NX.end (rs := [.tmp 4]) (vs := [.int .i64 i8]) rfl ⟨rfl, trivial⟩ ⟨_, rfl, rfl, hs11, he7⟩

-- loop.example/g00861/laws.heldInt64S
def F_laws_heldInt64S_L1 (a0_a : List Int) (k0 : Int → Int → Option Int) : Nat → Int → Int → Option Int
  | 0 => fun _ _ => none
  | m + 1 => fun i5 i6 => (bif decide (i6 < (a0_a.length : Int)) then (Option.bind (getI a0_a i6) fun x8 => (bif (x8 != i5) then (some (-1)) else (F_laws_heldInt64S_L1 a0_a k0 m (IntKind.wrap IntKind.i64 (i5 + 1)) (IntKind.wrap IntKind.i64 (i6 + 1))))) else (k0 i5 i6))
theorem F_laws_heldInt64S_L1_z (a0_a : List Int) (k0 : Int → Int → Option Int) (i5 : Int) (i6 : Int) : F_laws_heldInt64S_L1 a0_a k0 0 i5 i6 = none := rfl
theorem F_laws_heldInt64S_L1_s (m : Nat) (a0_a : List Int) (k0 : Int → Int → Option Int) (i5 : Int) (i6 : Int) : F_laws_heldInt64S_L1 a0_a k0 (m + 1) i5 i6 = (bif decide (i6 < (a0_a.length : Int)) then (Option.bind (getI a0_a i6) fun x8 => (bif (x8 != i5) then (some (-1)) else (F_laws_heldInt64S_L1 a0_a k0 m (IntKind.wrap IntKind.i64 (i5 + 1)) (IntKind.wrap IntKind.i64 (i6 + 1))))) else (k0 i5 i6)) := rfl

def F_laws_heldInt64S (n : Nat) (a0_a : List Int) (a1_k : Int) : Option Int := (F_laws_heldInt64S_L1 a0_a (fun i5 i6 => (some i5)) n a1_k 0)
set_option maxHeartbeats 40000000 in
theorem W_laws_heldInt64S {n : Nat} {a0_a : List Int} {a1_k : Int} {r : Int} {w : World} {v1 : Value} (hF : F_laws_heldInt64S n a0_a a1_k = some r) (ha2 : slRep (cInt .i64) w (Iv 0 w.heap.size) a0_a v1) :
    Calls Tryd.prog 43 [v1, .int .i64 a1_k].toArray w (Ret fun u w2 => u = .int .i64 r ∧ Ext w w2) := by
  refine calls_of Tryd.func43 rfl Tryd.ntmps43 ?_
  have he0 : Ext w w := Ext.refl w
  unfold F_laws_heldInt64S at hF
  refine WC.seq ?_
  refine WC.region ?_
  refine TL.yld rfl rfl (yld_assign rfl rfl) ?_
  refine TL.done ?_
  refine NX.seq ?_
  refine WC.seq ?_
  refine WC.seq ?_
  refine WC.region ?_
  refine TL.yld rfl rfl (yld_assign rfl rfl) ?_
  refine TL.done ?_
  refine NX.seq ?_
  refine WC.block ?_
  refine WC.loop (fun m7 a wl => ∃ (i5 : Int) (i6 : Int), Kn 21 [(0, v1), (1, .int .i64 i5), (5, .int .i64 i6)] a ∧ Ext w wl ∧ w.heap.size ≤ wl.heap.size ∧ F_laws_heldInt64S_L1 a0_a (fun i5 i6 => (some i5)) m7 i5 i6 = some r) n ?_ ?_
  · intro a hK; exact ⟨a1_k, 0, hK.weaken ⟨rfl, rfl, rfl, trivial⟩, he0, Nat.le_refl _, hF⟩
  · rintro m7 a w3 ⟨i5, i6, hK, he4, hz8, hF⟩
    revert hK; revert a; refine (?_ : WC _ _ _ _ _ _)
    cases m7 with
    | zero => rw [F_laws_heldInt64S_L1_z] at hF; cases hF
    | succ m7 =>
      rw [F_laws_heldInt64S_L1_s] at hF
      refine WC.seq ?_
      refine WC.seq ?_
      refine WC.region ?_
      refine TL.yld rfl rfl (yld_move rfl rfl) ?_
      refine TL.yld rfl rfl (yld_move rfl rfl) ?_
      refine TL.yld rfl rfl (ye_len (c := (cInt .i64)) rfl Tryd.underlying46 rfl (slRep.old ha2 he4 (Nat.le_refl _))) ?_
      refine TL.yld rfl rfl (yld_lss rfl rfl rfl) ?_
      refine TL.done ?_
      refine NX.seq ?_
      refine WC.cond rfl ?_ ?_
      · intro hc9
        replace hF := bif_t hc9 hF
        refine WC.skip' ?_
        refine NX.seq ?_
        refine WC.seq ?_
        refine WC.block ?_
        refine WC.seq ?_
        refine WC.seq ?_
        refine WC.region ?_
        refine TL.yld rfl rfl (yld_move rfl rfl) ?_
        refine TL.yld rfl rfl (yld_move rfl rfl) ?_
        obtain ⟨x10, hy11, hF⟩ := bsome hF
        refine TL.ye rfl rfl (ye_index (c := (cInt .i64)) rfl Tryd.underlying46 cn_2 rfl rfl (slRep.old ha2 he4 (Nat.le_refl _)) hy11) ?_
        rintro _ ⟨b12, o13, us14, rfl, hib17, hr15, hcl16⟩
        have hib17 : 0 ≤ b12 ∧ b12 < w.heap.size := ⟨hib17.1, by have := hib17.2; omega⟩
        obtain rfl := hr15
        refine TL.yld rfl rfl (yld_load1 0 rfl ag_2 rfl hcl16 rfl rfl) ?_
        refine TL.yld rfl rfl (yld_move rfl rfl) ?_
        refine TL.yld rfl rfl (yld_neq rfl rfl rfl) ?_
        refine TL.done ?_
        refine NX.seq ?_
        refine WC.cond rfl ?_ ?_
        · intro hc18
          replace hF := bif_t hc18 hF
          refine WC.seq ?_
          refine WC.region ?_
          refine TL.yld rfl rfl (yld_assign rfl rfl) ?_
          refine TL.done ?_
          refine NX.seq ?_
          refine WC.ret' ?_
          refine NX.then_r ?_
          refine NX.blk_r ?_
          refine NX.then_r ?_
          refine NX.then_r ?_
          refine NX.blk_r ?_
          refine NX.then_r ?_
          obtain rfl := Option.some.inj hF
          exact NX.end (rs := [.tmp 4]) (vs := [.int .i64 (-1)]) rfl ⟨rfl, trivial⟩ ⟨_, rfl, rfl, he4⟩
        · intro hc19
          replace hF := bif_f hc19 hF
          refine WC.skip' ?_
          refine NX.seq ?_
          refine WC.region ?_
          refine TL.yld rfl rfl (yld_move rfl rfl) ?_
          refine TL.yld rfl rfl (yld_add rfl rfl rfl) ?_
          refine TL.yld rfl rfl (yld_assign rfl rfl) ?_
          refine TL.done ?_
          refine NX.blk_n ?_
          refine NX.seq ?_
          refine WC.region ?_
          refine TL.yld rfl rfl (yld_move rfl rfl) ?_
          refine TL.yld rfl rfl (yld_add rfl rfl rfl) ?_
          refine TL.yld rfl rfl (yld_assign rfl rfl) ?_
          refine TL.done ?_
          refine NX.then_n ?_
          intro a hK; exact ⟨m7, Nat.lt_succ_self m7, (IntKind.wrap IntKind.i64 (i5 + 1)), (IntKind.wrap IntKind.i64 (i6 + 1)), hK.weaken ⟨rfl, rfl, rfl, trivial⟩, he4, (by omega), hF⟩
      · intro hc20
        replace hF := bif_f hc20 hF
        refine WC.exit' ?_
        refine NX.then_e ?_
        refine NX.then_e ?_
        refine NX.blk_hit ?_
        refine NX.seq ?_
        refine WC.seq ?_
        refine WC.region ?_
        refine TL.yld rfl rfl (yld_move rfl rfl) ?_
        refine TL.yld rfl rfl (yld_assign rfl rfl) ?_
        refine TL.done ?_
        refine NX.seq ?_
        refine WC.ret' ?_
        obtain rfl := Option.some.inj hF
        exact NX.end (rs := [.tmp 4]) (vs := [.int .i64 i5]) rfl ⟨rfl, trivial⟩ ⟨_, rfl, rfl, he4⟩

-- loop.example/g00861/laws.FnExactEdgesIn
def F_laws_FnExactEdgesIn (n : Nat) (a0_aList : List S_Clock) (a1_aK : Int) (a2_aEdge : Int) (a3_aFrom : Int) (a4_aTo : Int) : Option Bool := (Option.bind (F_laws_szClockS n a0_aList 1048576) fun r3 => (bif decide (r3 < 0) then (some true) else (Option.bind (F_laws_toClockS n a0_aList) fun r11 => (Option.bind (F_spec_EdgesIn n r11 a1_aK a2_aEdge a3_aFrom a4_aTo) fun r21 => (Option.bind (F_laws_toClockS n a0_aList) fun r31 => (Option.bind (F_impl_EdgesIn n r31 a1_aK a2_aEdge a3_aFrom a4_aTo) fun r41 => (Option.bind (F_laws_eqInt64S n r41.1 r21.1) fun r51 => (bif ((!r51) || ((r41.2 != r21.2))) then (some false) else (Option.bind (F_laws_toClockS n a0_aList) fun r64 => (Option.bind (F_laws_eqClockS n r31 r64) fun r74 => (bif (!r74) then (some false) else (Option.bind (F_laws_markClockS n r31 1) fun r82 => (Option.bind (bif decide (r82.1 < 0) then (some true) else (Option.bind (F_laws_eqInt64S n r41.1 r21.1) fun r93 => (some (!r93)))) fun c93 => (bif (c93 || ((r41.2 != r21.2))) then (some false) else (Option.bind (F_laws_markInt64S n r41.1 1) fun r113 => (Option.bind (F_laws_heldInt64S n r113.2 1) fun r124 => (bif decide (r124 < 0) then (some false) else (bif (r124 != r113.1) then (some false) else (Option.bind (F_laws_toClockS n a0_aList) fun r134 => (Option.bind (F_impl_EdgesIn n r134 a1_aK a2_aEdge a3_aFrom a4_aTo) fun r144 => (Option.bind (F_laws_eqInt64S n r144.1 r21.1) fun r154 => (bif ((!r154) || ((r144.2 != r21.2))) then (some false) else (Option.bind (F_laws_heldInt64S n r113.2 1) fun r167 => (bif decide (r167 < 0) then (some false) else (bif (r167 != r113.1) then (some false) else (some true))))))))))))))))))))))))))
set_option maxHeartbeats 40000000 in
theorem W_laws_FnExactEdgesIn {n : Nat} {a0_aList : List S_Clock} {a1_aK : Int} {a2_aEdge : Int} {a3_aFrom : Int} {a4_aTo : Int} {r : Bool} {w : World} {v1 : Value} (hF : F_laws_FnExactEdgesIn n a0_aList a1_aK a2_aEdge a3_aFrom a4_aTo = some r) (ha2 : slRep C_Clock w (Iv 0 w.heap.size) a0_aList v1) :
    Calls Tryd.prog 14 [v1, .int .i64 a1_aK, .int .i64 a2_aEdge, .int .i64 a3_aFrom, .int .i64 a4_aTo].toArray w (Ret fun u w2 => u = .bool r ∧ Ext w w2) := by
  refine calls_of Tryd.func14 rfl Tryd.ntmps14 ?_
  have he0 : Ext w w := Ext.refl w
  unfold F_laws_FnExactEdgesIn at hF
  refine WC.seq ?_
  refine WC.region ?_
  refine TL.yld rfl rfl (yld_assign rfl rfl) ?_
  refine TL.done ?_
  refine NX.seq ?_
  refine WC.seq ?_
  refine WC.region ?_
  refine TL.yld rfl rfl (yld_assign rfl rfl) ?_
  refine TL.done ?_
  refine NX.seq ?_
  refine WC.seq ?_
  refine WC.region ?_
  refine TL.yld rfl rfl (yld_move rfl rfl) ?_
  refine TL.yld rfl rfl (yld_move rfl rfl) ?_
  obtain ⟨r3, hr4, hF⟩ := bsome hF
  refine TL.eff rfl rfl (eff_call rfl gf_15 rfl (W_laws_szClockS hr4 ((slRep.old ha2 he0 (Nat.le_refl _)).wide (Nat.le_refl _) (he0).size))) ?_
  rintro _ w5 ⟨rfl, hx6⟩
  have he7 : Ext w w5 := Ext.trans he0 hx6
  have hz8 := (hx6).size
  refine TL.yld rfl rfl (yld_assign rfl rfl) ?_
  refine TL.done ?_
  refine NX.seq ?_
  refine WC.seq ?_
  refine WC.seq ?_
  refine WC.region ?_
  refine TL.yld rfl rfl (yld_move rfl rfl) ?_
  refine TL.yld rfl rfl (yld_lss rfl rfl rfl) ?_
  refine TL.done ?_
  refine NX.seq ?_
  refine WC.cond rfl ?_ ?_
  · intro hc9
    replace hF := bif_t hc9 hF
    refine WC.seq ?_
    refine WC.region ?_
    refine TL.yld rfl rfl (yld_assign rfl rfl) ?_
    refine TL.done ?_
    refine NX.seq ?_
    refine WC.ret' ?_
    refine NX.then_r ?_
    obtain rfl := Option.some.inj hF
    exact NX.end (rs := [.tmp 10]) (vs := [.bool true]) rfl ⟨rfl, trivial⟩ ⟨_, rfl, rfl, he7⟩
  · intro hc10
    replace hF := bif_f hc10 hF
    refine WC.skip' ?_
    refine NX.seq ?_
    refine WC.seq ?_
    refine WC.region ?_
    refine TL.yld rfl rfl (yld_move rfl rfl) ?_
    obtain ⟨r11, hr12, hF⟩ := bsome hF
    refine TL.eff rfl rfl (eff_call rfl gf_17 rfl (W_laws_toClockS hr12 ((slRep.old ha2 he7 (Nat.le_refl _)).wide (Nat.le_refl _) (he7).size))) ?_
    rintro v15 w13 ⟨_, rfl, hs16, hx14⟩
    have he19 : Ext w w13 := Ext.trans he7 hx14
    have hz20 := (hx14).size
    have hbd18 := ownR.blk hs16
    refine TL.yld rfl rfl (yld_move rfl rfl) ?_
    refine TL.yld rfl rfl (yld_move rfl rfl) ?_
    refine TL.yld rfl rfl (yld_move rfl rfl) ?_
    refine TL.yld rfl rfl (yld_move rfl rfl) ?_
    obtain ⟨r21, hr22, hF⟩ := bsome hF
    refine TL.eff rfl rfl (eff_call rfl gf_39 rfl (W_spec_EdgesIn hr22 (ownR.slf hs16 (Nat.zero_le _) (Nat.le_refl _)))) ?_
    rintro _ w23 ⟨v25, rfl, hs26, hx24⟩
    have he29 : Ext w w23 := Ext.trans he19 hx24
    have hs16 := ownR.ext hs16 hx24
    have hz30 := (hx24).size
    have hbd28 := ownR.blk hs26
    refine TL.yld rfl rfl (yld_move rfl rfl) ?_
    refine TL.yld rfl rfl (yld_extract rfl rfl rfl) ?_
    refine TL.yld rfl rfl (yld_extract rfl rfl rfl) ?_
    refine TL.yld rfl rfl (yld_assign rfl rfl) ?_
    refine TL.yld rfl rfl (yld_assign rfl rfl) ?_
    refine TL.done ?_
    refine NX.seq ?_
    refine WC.seq ?_
    refine WC.region ?_
    refine TL.yld rfl rfl (yld_move rfl rfl) ?_
    obtain ⟨r31, hr32, hF⟩ := bsome hF
    refine TL.eff rfl rfl (eff_call rfl gf_17 rfl (W_laws_toClockS hr32 ((slRep.old ha2 he29 (Nat.le_refl _)).wide (Nat.le_refl _) (he29).size))) ?_
    rintro v35 w33 ⟨_, rfl, hs36, hx34⟩
    have he39 : Ext w w33 := Ext.trans he29 hx34
    have hs16 := ownR.ext hs16 hx34
    have hs26 := ownR.ext hs26 hx34
    have hz40 := (hx34).size
    have hbd38 := ownR.blk hs36
    refine TL.yld rfl rfl (yld_assign rfl rfl) ?_
    refine TL.done ?_
    refine NX.seq ?_
    refine WC.seq ?_
    refine WC.region ?_
    refine TL.yld rfl rfl (yld_move rfl rfl) ?_
    refine TL.yld rfl rfl (yld_move rfl rfl) ?_
    refine TL.yld rfl rfl (yld_move rfl rfl) ?_
    refine TL.yld rfl rfl (yld_move rfl rfl) ?_
    refine TL.yld rfl rfl (yld_move rfl rfl) ?_
    obtain ⟨r41, hr42, hF⟩ := bsome hF
    refine TL.eff rfl rfl (eff_call rfl gf_35 rfl (W_impl_EdgesIn hr42 (ownR.slf hs36 (Nat.zero_le _) (Nat.le_refl _)))) ?_
    rintro _ w43 ⟨v45, rfl, hs46, hx44⟩
    have he49 : Ext w w43 := Ext.trans he39 hx44
    have hs16 := ownR.ext hs16 hx44
    have hs26 := ownR.ext hs26 hx44
    have hs36 := ownR.ext hs36 hx44
    have hz50 := (hx44).size
    have hbd48 := ownR.blk hs46
    refine TL.yld rfl rfl (yld_move rfl rfl) ?_
    refine TL.yld rfl rfl (yld_extract rfl rfl rfl) ?_
    refine TL.yld rfl rfl (yld_extract rfl rfl rfl) ?_
    refine TL.yld rfl rfl (yld_assign rfl rfl) ?_
    refine TL.yld rfl rfl (yld_assign rfl rfl) ?_
    refine TL.done ?_
    refine NX.seq ?_
    refine WC.seq ?_
    refine WC.seq ?_
    refine WC.region ?_
    refine TL.yld rfl rfl (yld_move rfl rfl) ?_
    refine TL.yld rfl rfl (yld_move rfl rfl) ?_
    obtain ⟨r51, hr52, hF⟩ := bsome hF
    refine TL.eff rfl rfl (eff_call rfl gf_40 rfl (W_laws_eqInt64S hr52 (ownR.slf hs46 (Nat.zero_le _) (Nat.le_refl _)) (ownR.slf hs26 (Nat.zero_le _) (Nat.le_refl _)))) ?_
    rintro _ w53 ⟨rfl, hx54⟩
    have he55 : Ext w w53 := Ext.trans he49 hx54
    have hs16 := ownR.ext hs16 hx54
    have hs26 := ownR.ext hs26 hx54
    have hs36 := ownR.ext hs36 hx54
    have hs46 := ownR.ext hs46 hx54
    have hz56 := (hx54).size
    refine TL.yld rfl rfl (yld_not rfl rfl) ?_
    refine TL.yld rfl rfl (yld_move rfl rfl) ?_
    refine TL.cut 4 [(0, v1), (1, .int .i64 a1_aK), (2, .int .i64 a2_aEdge), (3, .int .i64 a3_aFrom), (4, .int .i64 a4_aTo), (12, v25), (13, .int .i64 r21.2), (14, v35), (15, v45), (16, .int .i64 r41.2), (56, .bool (((!r51) || ((r41.2 != r21.2)))))] (fun w' => Ext w53 w') ?_ ?_
    · rcases Bool.eq_false_or_eq_true (!r51) with hg57 | hg57
      ·
        refine TL.gnu (j := 4) (t := 52) rfl rfl rfl hg57 rfl ?_
        refine TL.gnu (j := 4) (t := 52) rfl rfl rfl hg57 rfl ?_
        refine TL.gnu (j := 4) (t := 52) rfl rfl rfl hg57 rfl ?_
        refine TL.yld rfl rfl (yld_or_t (b2 := (r41.2 != r21.2)) rfl rfl hg57 rfl) ?_
        exact TL.nil fun a h => ⟨h.weaken ⟨rfl, rfl, rfl, rfl, rfl, rfl, rfl, rfl, rfl, rfl, rfl, trivial⟩, Ext.refl _⟩
      ·
        refine TL.gy (j := 4) (t := 52) rfl rfl rfl hg57 rfl (yld_move rfl rfl) ?_
        refine TL.gy (j := 4) (t := 52) rfl rfl rfl hg57 rfl (yld_move rfl rfl) ?_
        refine TL.gy (j := 4) (t := 52) rfl rfl rfl hg57 rfl (yld_neq rfl rfl rfl) ?_
        refine TL.yld rfl rfl (yld_or_f rfl rfl hg57 rfl) ?_
        exact TL.nil fun a h => ⟨h.weaken ⟨rfl, rfl, rfl, rfl, rfl, rfl, rfl, rfl, rfl, rfl, rfl, trivial⟩, Ext.refl _⟩
    intro w58 hx59
    have he60 : Ext w w58 := Ext.trans he55 hx59
    have hs16 := ownR.ext hs16 hx59
    have hs26 := ownR.ext hs26 hx59
    have hs36 := ownR.ext hs36 hx59
    have hs46 := ownR.ext hs46 hx59
    have hz61 := (hx59).size
    refine TL.done ?_
    refine NX.seq ?_
    refine WC.cond rfl ?_ ?_
    · intro hc62
      replace hF := bif_t hc62 hF
      refine WC.seq ?_
      refine WC.region ?_
      refine TL.yld rfl rfl (yld_assign rfl rfl) ?_
      refine TL.done ?_
      refine NX.seq ?_
      refine WC.ret' ?_
      refine NX.then_r ?_
      obtain rfl := Option.some.inj hF
      exact NX.end (rs := [.tmp 10]) (vs := [.bool false]) rfl ⟨rfl, trivial⟩ ⟨_, rfl, rfl, he60⟩
    · intro hc63
      replace hF := bif_f hc63 hF
      refine WC.skip' ?_
      refine NX.seq ?_
      refine WC.seq ?_
      refine WC.seq ?_
      refine WC.region ?_
      refine TL.yld rfl rfl (yld_move rfl rfl) ?_
      refine TL.yld rfl rfl (yld_move rfl rfl) ?_
      obtain ⟨r64, hr65, hF⟩ := bsome hF
      refine TL.eff rfl rfl (eff_call rfl gf_17 rfl (W_laws_toClockS hr65 ((slRep.old ha2 he60 (Nat.le_refl _)).wide (Nat.le_refl _) (he60).size))) ?_
      rintro v68 w66 ⟨_, rfl, hs69, hx67⟩
      have he72 : Ext w w66 := Ext.trans he60 hx67
      have hs16 := ownR.ext hs16 hx67
      have hs26 := ownR.ext hs26 hx67
      have hs36 := ownR.ext hs36 hx67
      have hs46 := ownR.ext hs46 hx67
      have hz73 := (hx67).size
      have hbd71 := ownR.blk hs69
      obtain ⟨r74, hr75, hF⟩ := bsome hF
      refine TL.eff rfl rfl (eff_call rfl gf_19 rfl (W_laws_eqClockS hr75 (ownR.slf hs36 (Nat.zero_le _) (Nat.le_refl _)) (ownR.slf hs69 (Nat.zero_le _) (Nat.le_refl _)))) ?_
      rintro _ w76 ⟨rfl, hx77⟩
      have he78 : Ext w w76 := Ext.trans he72 hx77
      have hs16 := ownR.ext hs16 hx77
      have hs26 := ownR.ext hs26 hx77
      have hs36 := ownR.ext hs36 hx77
      have hs46 := ownR.ext hs46 hx77
      have hs69 := ownR.ext hs69 hx77
      have hz79 := (hx77).size
      refine TL.yld rfl rfl (yld_not rfl rfl) ?_
      refine TL.done ?_
      refine NX.seq ?_
      refine WC.cond rfl ?_ ?_
      · intro hc80
        replace hF := bif_t hc80 hF
        refine WC.seq ?_
        refine WC.region ?_
        refine TL.yld rfl rfl (yld_assign rfl rfl) ?_
        refine TL.done ?_
        refine NX.seq ?_
        refine WC.ret' ?_
        refine NX.then_r ?_
        obtain rfl := Option.some.inj hF
        exact NX.end (rs := [.tmp 10]) (vs := [.bool false]) rfl ⟨rfl, trivial⟩ ⟨_, rfl, rfl, he78⟩
      · intro hc81
        replace hF := bif_f hc81 hF
        refine WC.skip' ?_
        refine NX.seq ?_
        refine WC.seq ?_
        refine WC.region ?_
        refine TL.yld rfl rfl (yld_assign rfl rfl) ?_
        refine TL.done ?_
        refine NX.seq ?_
        refine WC.seq ?_
        refine WC.region ?_
        refine TL.yld rfl rfl (yld_move rfl rfl) ?_
        refine TL.yld rfl rfl (yld_move rfl rfl) ?_
        obtain ⟨r82, hr83, hF⟩ := bsome hF
        refine TL.eff rfl rfl (eff_call rfl gf_41 rfl (W_laws_markClockS hr83 hs36)) ?_
        rintro _ w84 ⟨rfl, hs86, hx85⟩
        have he87 : Ext w w84 := Below.trans he78 (But.below hx85 (all_pO (fun g hg => by have := hbd38 g hg; omega)) (he78).size)
        have hp88 : ∀ g q, v35.ownBlock = some g → v15.ownBlock = some q → g ≠ q := (fun g q hg hq => by have := hbd38 g hg; have := hbd18 q hq; omega)
        have hs16 := ownR.butF hs16 hx85 (all_pO (fun g hg q hq => hp88 g q hg hq))
        have hp89 : ∀ g q, v35.ownBlock = some g → v25.ownBlock = some q → g ≠ q := (fun g q hg hq => by have := hbd38 g hg; have := hbd28 q hq; omega)
        have hs26 := ownR.butF hs26 hx85 (all_pO (fun g hg q hq => hp89 g q hg hq))
        have hp90 : ∀ g q, v35.ownBlock = some g → v45.ownBlock = some q → g ≠ q := (fun g q hg hq => by have := hbd38 g hg; have := hbd48 q hq; omega)
        have hs46 := ownR.butF hs46 hx85 (all_pO (fun g hg q hq => hp90 g q hg hq))
        have hp91 : ∀ g q, v35.ownBlock = some g → v68.ownBlock = some q → g ≠ q := (fun g q hg hq => by have := hbd38 g hg; have := hbd71 q hq; omega)
        have hs69 := ownR.butF hs69 hx85 (all_pO (fun g hg q hq => hp91 g q hg hq))
        have hz92 := (hx85).size
        refine TL.yld rfl rfl (yld_assign rfl rfl) ?_
        refine TL.done ?_
        refine NX.seq ?_
        refine WC.seq ?_
        refine WC.seq ?_
        refine WC.region ?_
        refine TL.yld rfl rfl (yld_move rfl rfl) ?_
        refine TL.yld rfl rfl (yld_lss rfl rfl rfl) ?_
        refine TL.yld rfl rfl (yld_move rfl rfl) ?_
        obtain ⟨c93, hb94, hF⟩ := bsome hF
        refine TL.cut 5 [(0, v1), (1, .int .i64 a1_aK), (2, .int .i64 a2_aEdge), (3, .int .i64 a3_aFrom), (4, .int .i64 a4_aTo), (12, v25), (13, .int .i64 r21.2), (15, v45), (16, .int .i64 r41.2), (72, .bool c93)] (fun w' => Ext w84 w') ?_ ?_
        · rcases Bool.eq_false_or_eq_true (decide (r82.1 < 0)) with hg95 | hg95
          ·
            rw [hg95] at hb94; simp only [cond_true, cond_false] at hb94
            refine TL.gnu (j := 2) (t := 67) rfl rfl rfl hg95 rfl ?_
            refine TL.gnu (j := 2) (t := 67) rfl rfl rfl hg95 rfl ?_
            refine TL.gnu (j := 2) (t := 67) rfl rfl rfl hg95 rfl ?_
            refine TL.gnu (j := 2) (t := 67) rfl rfl rfl hg95 rfl ?_
            obtain rfl := Option.some.inj hb94
            refine TL.yld rfl rfl (yld_pick_t rfl rfl hg95 rfl) ?_
            exact TL.nil fun a h => ⟨h.weaken ⟨rfl, rfl, rfl, rfl, rfl, rfl, rfl, rfl, rfl, rfl, trivial⟩, Ext.refl _⟩
          ·
            rw [hg95] at hb94; simp only [cond_true, cond_false] at hb94
            replace hF := hb94
            refine TL.gy (j := 2) (t := 67) rfl rfl rfl hg95 rfl (yld_move rfl rfl) ?_
            refine TL.gy (j := 2) (t := 67) rfl rfl rfl hg95 rfl (yld_move rfl rfl) ?_
            obtain ⟨r96, hr97, hF⟩ := bsome hF
            refine TL.ge (j := 2) (t := 67) rfl rfl rfl hg95 rfl (eff_call rfl gf_40 rfl (W_laws_eqInt64S hr97 (ownR.slf hs46 (Nat.zero_le _) (Nat.le_refl _)) (ownR.slf hs26 (Nat.zero_le _) (Nat.le_refl _)))) ?_
            rintro _ w98 ⟨rfl, hx99⟩
            have he100 : Ext w w98 := Ext.trans he87 hx99
            have hs16 := ownR.ext hs16 hx99
            have hs26 := ownR.ext hs26 hx99
            have hs86 := ownR.ext hs86 hx99
            have hs46 := ownR.ext hs46 hx99
            have hs69 := ownR.ext hs69 hx99
            have hz101 := (hx99).size
            refine TL.gy (j := 2) (t := 67) rfl rfl rfl hg95 rfl (yld_not rfl rfl) ?_
            obtain rfl := Option.some.inj hF
            refine TL.yld rfl rfl (yld_pick_f rfl rfl hg95 rfl) ?_
            exact TL.nil fun a h => ⟨h.weaken ⟨rfl, rfl, rfl, rfl, rfl, rfl, rfl, rfl, rfl, rfl, trivial⟩, hx99⟩
        intro w102 hx103
        have he104 : Ext w w102 := Ext.trans he87 hx103
        have hs16 := ownR.ext hs16 hx103
        have hs26 := ownR.ext hs26 hx103
        have hs86 := ownR.ext hs86 hx103
        have hs46 := ownR.ext hs46 hx103
        have hs69 := ownR.ext hs69 hx103
        have hz105 := (hx103).size
        refine TL.yld rfl rfl (yld_move rfl rfl) ?_
        refine TL.cut 4 [(0, v1), (1, .int .i64 a1_aK), (2, .int .i64 a2_aEdge), (3, .int .i64 a3_aFrom), (4, .int .i64 a4_aTo), (12, v25), (13, .int .i64 r21.2), (15, v45), (77, .bool ((c93 || ((r41.2 != r21.2)))))] (fun w' => Ext w102 w') ?_ ?_
        · rcases Bool.eq_false_or_eq_true c93 with hg106 | hg106
          ·
            refine TL.gnu (j := 8) (t := 73) rfl rfl rfl hg106 rfl ?_
            refine TL.gnu (j := 8) (t := 73) rfl rfl rfl hg106 rfl ?_
            refine TL.gnu (j := 8) (t := 73) rfl rfl rfl hg106 rfl ?_
            refine TL.yld rfl rfl (yld_or_t (b2 := (r41.2 != r21.2)) rfl rfl hg106 rfl) ?_
            exact TL.nil fun a h => ⟨h.weaken ⟨rfl, rfl, rfl, rfl, rfl, rfl, rfl, rfl, rfl, trivial⟩, Ext.refl _⟩
          ·
            refine TL.gy (j := 8) (t := 73) rfl rfl rfl hg106 rfl (yld_move rfl rfl) ?_
            refine TL.gy (j := 8) (t := 73) rfl rfl rfl hg106 rfl (yld_move rfl rfl) ?_
            refine TL.gy (j := 8) (t := 73) rfl rfl rfl hg106 rfl (yld_neq rfl rfl rfl) ?_
            refine TL.yld rfl rfl (yld_or_f rfl rfl hg106 rfl) ?_
            exact TL.nil fun a h => ⟨h.weaken ⟨rfl, rfl, rfl, rfl, rfl, rfl, rfl, rfl, rfl, trivial⟩, Ext.refl _⟩
        intro w107 hx108
        have he109 : Ext w w107 := Ext.trans he104 hx108
        have hs16 := ownR.ext hs16 hx108
        have hs26 := ownR.ext hs26 hx108
        have hs86 := ownR.ext hs86 hx108
        have hs46 := ownR.ext hs46 hx108
        have hs69 := ownR.ext hs69 hx108
        have hz110 := (hx108).size
        refine TL.done ?_
        refine NX.seq ?_
        refine WC.cond rfl ?_ ?_
        · intro hc111
          replace hF := bif_t hc111 hF
          refine WC.seq ?_
          refine WC.region ?_
          refine TL.yld rfl rfl (yld_assign rfl rfl) ?_
          refine TL.done ?_
          refine NX.seq ?_
          refine WC.ret' ?_
          refine NX.then_r ?_
          obtain rfl := Option.some.inj hF
          exact NX.end (rs := [.tmp 10]) (vs := [.bool false]) rfl ⟨rfl, trivial⟩ ⟨_, rfl, rfl, he109⟩
        · intro hc112
          replace hF := bif_f hc112 hF
          refine WC.skip' ?_
          refine NX.seq ?_
          refine WC.seq ?_
          refine WC.region ?_
          refine TL.yld rfl rfl (yld_assign rfl rfl) ?_
          refine TL.done ?_
          refine NX.seq ?_
          refine WC.seq ?_
          refine WC.region ?_
          refine TL.yld rfl rfl (yld_move rfl rfl) ?_
          refine TL.yld rfl rfl (yld_move rfl rfl) ?_
          obtain ⟨r113, hr114, hF⟩ := bsome hF
          refine TL.eff rfl rfl (eff_call rfl gf_42 rfl (W_laws_markInt64S hr114 hs46)) ?_
          rintro _ w115 ⟨rfl, hs117, hx116⟩
          have he118 : Ext w w115 := Below.trans he109 (But.below hx116 (all_pO (fun g hg => by have := hbd48 g hg; omega)) (he109).size)
          have hp119 : ∀ g q, v45.ownBlock = some g → v15.ownBlock = some q → g ≠ q := (fun g q hg hq => by have := hbd48 g hg; have := hbd18 q hq; omega)
          have hs16 := ownR.butF hs16 hx116 (all_pO (fun g hg q hq => hp119 g q hg hq))
          have hp120 : ∀ g q, v45.ownBlock = some g → v25.ownBlock = some q → g ≠ q := (fun g q hg hq => by have := hbd48 g hg; have := hbd28 q hq; omega)
          have hs26 := ownR.butF hs26 hx116 (all_pO (fun g hg q hq => hp120 g q hg hq))
          have hp121 : ∀ g q, v45.ownBlock = some g → v35.ownBlock = some q → g ≠ q := (fun g q hg hq => by have := hbd48 g hg; have := hbd38 q hq; omega)
          have hs86 := ownR.butF hs86 hx116 (all_pO (fun g hg q hq => hp121 g q hg hq))
          have hp122 : ∀ g q, v45.ownBlock = some g → v68.ownBlock = some q → g ≠ q := (fun g q hg hq => by have := hbd48 g hg; have := hbd71 q hq; omega)
          have hs69 := ownR.butF hs69 hx116 (all_pO (fun g hg q hq => hp122 g q hg hq))
          have hz123 := (hx116).size
          refine TL.yld rfl rfl (yld_assign rfl rfl) ?_
          refine TL.done ?_
          refine NX.seq ?_
          refine WC.seq ?_
          refine WC.region ?_
          refine TL.yld rfl rfl (yld_assign rfl rfl) ?_
          refine TL.done ?_
          refine NX.seq ?_
          refine WC.seq ?_
          refine WC.region ?_
          refine TL.yld rfl rfl (yld_move rfl rfl) ?_
          refine TL.yld rfl rfl (yld_move rfl rfl) ?_
          obtain ⟨r124, hr125, hF⟩ := bsome hF
          refine TL.eff rfl rfl (eff_call rfl gf_43 rfl (W_laws_heldInt64S hr125 (ownR.slf hs117 (Nat.zero_le _) (Nat.le_refl _)))) ?_
          rintro _ w126 ⟨rfl, hx127⟩
          have he128 : Ext w w126 := Ext.trans he118 hx127
          have hs16 := ownR.ext hs16 hx127
          have hs26 := ownR.ext hs26 hx127
          have hs86 := ownR.ext hs86 hx127
          have hs117 := ownR.ext hs117 hx127
          have hs69 := ownR.ext hs69 hx127
          have hz129 := (hx127).size
          refine TL.yld rfl rfl (yld_assign rfl rfl) ?_
          refine TL.done ?_
          refine NX.seq ?_
          refine WC.seq ?_
          refine WC.seq ?_
          refine WC.region ?_
          refine TL.yld rfl rfl (yld_move rfl rfl) ?_
          refine TL.yld rfl rfl (yld_lss rfl rfl rfl) ?_
          refine TL.done ?_
          refine NX.seq ?_
          refine WC.cond rfl ?_ ?_
          · intro hc130
            replace hF := bif_t hc130 hF
            refine WC.seq ?_
            refine WC.region ?_
            refine TL.yld rfl rfl (yld_assign rfl rfl) ?_
            refine TL.done ?_
            refine NX.seq ?_
            refine WC.ret' ?_
            refine NX.then_r ?_
            obtain rfl := Option.some.inj hF
            exact NX.end (rs := [.tmp 10]) (vs := [.bool false]) rfl ⟨rfl, trivial⟩ ⟨_, rfl, rfl, he128⟩
          · intro hc131
            replace hF := bif_f hc131 hF
            refine WC.skip' ?_
            refine NX.seq ?_
            refine WC.seq ?_
            refine WC.seq ?_
            refine WC.region ?_
            refine TL.yld rfl rfl (yld_move rfl rfl) ?_
            refine TL.yld rfl rfl (yld_move rfl rfl) ?_
            refine TL.yld rfl rfl (yld_neq rfl rfl rfl) ?_
            refine TL.done ?_
            refine NX.seq ?_
            refine WC.cond rfl ?_ ?_
            · intro hc132
              replace hF := bif_t hc132 hF
              refine WC.seq ?_
              refine WC.region ?_
              refine TL.yld rfl rfl (yld_assign rfl rfl) ?_
              refine TL.done ?_
              refine NX.seq ?_
              refine WC.ret' ?_
              refine NX.then_r ?_
              obtain rfl := Option.some.inj hF
              exact NX.end (rs := [.tmp 10]) (vs := [.bool false]) rfl ⟨rfl, trivial⟩ ⟨_, rfl, rfl, he128⟩
            · intro hc133
              replace hF := bif_f hc133 hF
              refine WC.skip' ?_
              refine NX.seq ?_
              refine WC.seq ?_
              refine WC.region ?_
              refine TL.yld rfl rfl (yld_move rfl rfl) ?_
              obtain ⟨r134, hr135, hF⟩ := bsome hF
              refine TL.eff rfl rfl (eff_call rfl gf_17 rfl (W_laws_toClockS hr135 ((slRep.old ha2 he128 (Nat.le_refl _)).wide (Nat.le_refl _) (he128).size))) ?_
              rintro v138 w136 ⟨_, rfl, hs139, hx137⟩
              have he142 : Ext w w136 := Ext.trans he128 hx137
              have hs16 := ownR.ext hs16 hx137
              have hs26 := ownR.ext hs26 hx137
              have hs86 := ownR.ext hs86 hx137
              have hs117 := ownR.ext hs117 hx137
              have hs69 := ownR.ext hs69 hx137
              have hz143 := (hx137).size
              have hbd141 := ownR.blk hs139
              refine TL.yld rfl rfl (yld_move rfl rfl) ?_
              refine TL.yld rfl rfl (yld_move rfl rfl) ?_
              refine TL.yld rfl rfl (yld_move rfl rfl) ?_
              refine TL.yld rfl rfl (yld_move rfl rfl) ?_
              obtain ⟨r144, hr145, hF⟩ := bsome hF
              refine TL.eff rfl rfl (eff_call rfl gf_35 rfl (W_impl_EdgesIn hr145 (ownR.slf hs139 (Nat.zero_le _) (Nat.le_refl _)))) ?_
              rintro _ w146 ⟨v148, rfl, hs149, hx147⟩
              have he152 : Ext w w146 := Ext.trans he142 hx147
              have hs16 := ownR.ext hs16 hx147
              have hs26 := ownR.ext hs26 hx147
              have hs86 := ownR.ext hs86 hx147
              have hs117 := ownR.ext hs117 hx147
              have hs69 := ownR.ext hs69 hx147
              have hs139 := ownR.ext hs139 hx147
              have hz153 := (hx147).size
              have hbd151 := ownR.blk hs149
              refine TL.yld rfl rfl (yld_move rfl rfl) ?_
              refine TL.yld rfl rfl (yld_extract rfl rfl rfl) ?_
              refine TL.yld rfl rfl (yld_extract rfl rfl rfl) ?_
              refine TL.yld rfl rfl (yld_assign rfl rfl) ?_
              refine TL.yld rfl rfl (yld_assign rfl rfl) ?_
              refine TL.done ?_
              refine NX.seq ?_
              refine WC.seq ?_
              refine WC.seq ?_
              refine WC.region ?_
              refine TL.yld rfl rfl (yld_move rfl rfl) ?_
              refine TL.yld rfl rfl (yld_move rfl rfl) ?_
              obtain ⟨r154, hr155, hF⟩ := bsome hF
              refine TL.eff rfl rfl (eff_call rfl gf_40 rfl (W_laws_eqInt64S hr155 (ownR.slf hs149 (Nat.zero_le _) (Nat.le_refl _)) (ownR.slf hs26 (Nat.zero_le _) (Nat.le_refl _)))) ?_
              rintro _ w156 ⟨rfl, hx157⟩
              have he158 : Ext w w156 := Ext.trans he152 hx157
              have hs16 := ownR.ext hs16 hx157
              have hs26 := ownR.ext hs26 hx157
              have hs86 := ownR.ext hs86 hx157
              have hs117 := ownR.ext hs117 hx157
              have hs69 := ownR.ext hs69 hx157
              have hs139 := ownR.ext hs139 hx157
              have hs149 := ownR.ext hs149 hx157
              have hz159 := (hx157).size
              refine TL.yld rfl rfl (yld_not rfl rfl) ?_
              refine TL.yld rfl rfl (yld_move rfl rfl) ?_
              refine TL.cut 4 [(15, v45), (18, .int .i64 r113.1), (107, .bool (((!r154) || ((r144.2 != r21.2)))))] (fun w' => Ext w156 w') ?_ ?_
              · rcases Bool.eq_false_or_eq_true (!r154) with hg160 | hg160
                ·
                  refine TL.gnu (j := 4) (t := 103) rfl rfl rfl hg160 rfl ?_
                  refine TL.gnu (j := 4) (t := 103) rfl rfl rfl hg160 rfl ?_
                  refine TL.gnu (j := 4) (t := 103) rfl rfl rfl hg160 rfl ?_
                  refine TL.yld rfl rfl (yld_or_t (b2 := (r144.2 != r21.2)) rfl rfl hg160 rfl) ?_
                  exact TL.nil fun a h => ⟨h.weaken ⟨rfl, rfl, rfl, trivial⟩, Ext.refl _⟩
                ·
                  refine TL.gy (j := 4) (t := 103) rfl rfl rfl hg160 rfl (yld_move rfl rfl) ?_
                  refine TL.gy (j := 4) (t := 103) rfl rfl rfl hg160 rfl (yld_move rfl rfl) ?_
                  refine TL.gy (j := 4) (t := 103) rfl rfl rfl hg160 rfl (yld_neq rfl rfl rfl) ?_
                  refine TL.yld rfl rfl (yld_or_f rfl rfl hg160 rfl) ?_
                  exact TL.nil fun a h => ⟨h.weaken ⟨rfl, rfl, rfl, trivial⟩, Ext.refl _⟩
              intro w161 hx162
              have he163 : Ext w w161 := Ext.trans he158 hx162
              have hs16 := ownR.ext hs16 hx162
              have hs26 := ownR.ext hs26 hx162
              have hs86 := ownR.ext hs86 hx162
              have hs117 := ownR.ext hs117 hx162
              have hs69 := ownR.ext hs69 hx162
              have hs139 := ownR.ext hs139 hx162
              have hs149 := ownR.ext hs149 hx162
              have hz164 := (hx162).size
              refine TL.done ?_
              refine NX.seq ?_
              refine WC.cond rfl ?_ ?_
              · intro hc165
                replace hF := bif_t hc165 hF
                refine WC.seq ?_
                refine WC.region ?_
                refine TL.yld rfl rfl (yld_assign rfl rfl) ?_
                refine TL.done ?_
                refine NX.seq ?_
                refine WC.ret' ?_
                refine NX.then_r ?_
                obtain rfl := Option.some.inj hF
                exact NX.end (rs := [.tmp 10]) (vs := [.bool false]) rfl ⟨rfl, trivial⟩ ⟨_, rfl, rfl, he163⟩
              · intro hc166
                replace hF := bif_f hc166 hF
                refine WC.skip' ?_
                refine NX.seq ?_
                refine WC.seq ?_
                refine WC.region ?_
                refine TL.yld rfl rfl (yld_assign rfl rfl) ?_
                refine TL.done ?_
                refine NX.seq ?_
                refine WC.seq ?_
                refine WC.region ?_
                refine TL.yld rfl rfl (yld_move rfl rfl) ?_
                refine TL.yld rfl rfl (yld_move rfl rfl) ?_
                obtain ⟨r167, hr168, hF⟩ := bsome hF
                refine TL.eff rfl rfl (eff_call rfl gf_43 rfl (W_laws_heldInt64S hr168 (ownR.slf hs117 (Nat.zero_le _) (Nat.le_refl _)))) ?_
                rintro _ w169 ⟨rfl, hx170⟩
                have he171 : Ext w w169 := Ext.trans he163 hx170
                have hs16 := ownR.ext hs16 hx170
                have hs26 := ownR.ext hs26 hx170
                have hs86 := ownR.ext hs86 hx170
                have hs117 := ownR.ext hs117 hx170
                have hs69 := ownR.ext hs69 hx170
                have hs139 := ownR.ext hs139 hx170
                have hs149 := ownR.ext hs149 hx170
                have hz172 := (hx170).size
                refine TL.yld rfl rfl (yld_assign rfl rfl) ?_
                refine TL.done ?_
                refine NX.seq ?_
                refine WC.seq ?_
                refine WC.seq ?_
                refine WC.region ?_
                refine TL.yld rfl rfl (yld_move rfl rfl) ?_
                refine TL.yld rfl rfl (yld_lss rfl rfl rfl) ?_
                refine TL.done ?_
                refine NX.seq ?_
                refine WC.cond rfl ?_ ?_
                · intro hc173
                  replace hF := bif_t hc173 hF
                  refine WC.seq ?_
                  refine WC.region ?_
                  refine TL.yld rfl rfl (yld_assign rfl rfl) ?_
                  refine TL.done ?_
                  refine NX.seq ?_
                  refine WC.ret' ?_
                  refine NX.then_r ?_
                  obtain rfl := Option.some.inj hF
                  exact NX.end (rs := [.tmp 10]) (vs := [.bool false]) rfl ⟨rfl, trivial⟩ ⟨_, rfl, rfl, he171⟩
                · intro hc174
                  replace hF := bif_f hc174 hF
                  refine WC.skip' ?_
                  refine NX.seq ?_
                  refine WC.seq ?_
                  refine WC.seq ?_
                  refine WC.region ?_
                  refine TL.yld rfl rfl (yld_move rfl rfl) ?_
                  refine TL.yld rfl rfl (yld_move rfl rfl) ?_
                  refine TL.yld rfl rfl (yld_neq rfl rfl rfl) ?_
                  refine TL.done ?_
                  refine NX.seq ?_
                  refine WC.cond rfl ?_ ?_
                  · intro hc175
                    replace hF := bif_t hc175 hF
                    refine WC.seq ?_
                    refine WC.region ?_
                    refine TL.yld rfl rfl (yld_assign rfl rfl) ?_
                    refine TL.done ?_
                    refine NX.seq ?_
                    refine WC.ret' ?_
                    refine NX.then_r ?_
                    obtain rfl := Option.some.inj hF
                    exact NX.end (rs := [.tmp 10]) (vs := [.bool false]) rfl ⟨rfl, trivial⟩ ⟨_, rfl, rfl, he171⟩
                  · intro hc176
                    replace hF := bif_f hc176 hF
                    refine WC.skip' ?_
                    refine NX.seq ?_
                    refine WC.seq ?_
                    refine WC.region ?_
                    refine TL.yld rfl rfl (yld_assign rfl rfl) ?_
                    refine TL.done ?_
                    refine NX.seq ?_
                    refine WC.ret' ?_
                    obtain rfl := Option.some.inj hF
                    exact NX.end (rs := [.tmp 10]) (vs := [.bool true]) rfl ⟨rfl, trivial⟩ ⟨_, rfl, rfl, he171⟩

theorem Z_Clock {n : Nat} {a : S_Clock} {left : Int} (hR : R_Clock a) (h0 : 0 ≤ left) (h1 : left ≤ 1048576) (hn : 1048577 ≤ n) : ∃ r, F_laws_szClock n a left = some r ∧ r ≤ left ∧ (0 ≤ r → SM_Clock a) := by
  rw [F_laws_szClock]
  have g0 : a.Name.size ≤ 9223372036854775807 := maxLen_is ▸ hR.1
  have w0 : IntKind.wrap IntKind.i64 (left - (a.Name.size : Int)) = left - (a.Name.size : Int) := wrap64 (by omega) (by omega)
  rw [w0]
  generalize hq0 : left - (a.Name.size : Int) = r0
  by_cases h_0 : r0 < 0
  · rw [decide_eq_true h_0]; exact ⟨-1, rfl, by omega, fun h => by omega⟩
  rw [decide_eq_false h_0, cond_false]
  exact ⟨_, rfl, by omega, fun _ => ⟨(by omega), trivial, trivial, trivial, trivial, trivial, trivial, trivial, trivial, trivial, trivial⟩⟩
theorem Z_ClockS {n : Nat} {a : List S_Clock} {left : Int} (hR : (fun xs => xs.length ≤ 9223372036854775807 ∧ ∀ x ∈ xs, R_Clock x) a) (h0 : 0 ≤ left) (h1 : left ≤ 1048576) (hn : 1048577 ≤ n) : ∃ r, F_laws_szClockS n a left = some r ∧ r ≤ left ∧ (0 ≤ r → (fun xs => xs.length ≤ 1048576 ∧ ∀ x ∈ xs, SM_Clock x) a) := by
  have hl := hR.1
  rw [F_laws_szClockS, wrap64 (by omega) (by omega)]
  by_cases h : left - (a.length : Int) < 0
  · rw [decide_eq_true h]; exact ⟨-1, rfl, by omega, fun h => by omega⟩
  · rw [decide_eq_false h, cond_false]
    obtain ⟨r, e, hr, hs⟩ := szL (xs := a) (L := fun m l i => F_laws_szClockS_L1 n a (fun i7 i8 => (some i7)) m l i) (f := F_laws_szClock n) (SM := SM_Clock) (by omega) (fun x hx left g0 g1 => Z_Clock (hR.2 x hx) g0 g1 hn) (fun m i left hi hi2 => by simp only [F_laws_szClockS_L1_s, dltE hi, cond_true, getI_elE hi, Option.bind_some, wSE hi2]) (fun m left => by simp only [F_laws_szClockS_L1_s, dnlE, cond_false]) n 0 (left - (a.length : Int)) (by omega) (by omega) (by omega) (by omega) (fun j _ hj => by omega)
    exact ⟨r, e, by omega, fun h => ⟨by omega, hs h⟩⟩
theorem T_Clock {n : Nat} {a : S_Clock} (h : SM_Clock a) (hn : 1048577 ≤ n) : F_laws_toClock n a = some a := by
  rfl
theorem TL_ClockS {n : Nat} {a : List S_Clock} {k : Int → List S_Clock → Option (List S_Clock)} : ∀ (m : Nat) (i : Int) (l : List S_Clock), F_laws_toClockS_L1 n a k m i l = cpL a (F_laws_toClock n) k m i l
  | 0, _, _ => rfl
  | m + 1, i, l => by simp only [F_laws_toClockS_L1_s, cpL_s, Option.bind_some, TL_ClockS (n := n) (a := a) (k := k) m]
theorem T_ClockS {n : Nat} {a : List S_Clock} (h : (fun xs => xs.length ≤ 1048576 ∧ ∀ x ∈ xs, SM_Clock x) a) (hn : 1048577 ≤ n) : F_laws_toClockS n a = some a := by
  rw [F_laws_toClockS, mkN_ok h.1 (by omega), Option.bind_some, TL_ClockS (n := n)]
  exact cpL_id (fun x hx => T_Clock (h.2 x hx) hn) h.1 hn
theorem E_Clock {n : Nat} {a : S_Clock} (h : SM_Clock a) (hn : 1048577 ≤ n) : F_laws_eqClock n a a = some true := by
  simp [F_laws_eqClock]
theorem EL_ClockS {n : Nat} {a b : List S_Clock} {k : Int → Option Bool} : ∀ (m : Nat) (i : Int), F_laws_eqClockS_L1 n a b k m i = eqL a b (F_laws_eqClock n) (some false) k m i
  | 0, _ => rfl
  | m + 1, i => by simp only [F_laws_eqClockS_L1_s, eqL_s, Option.bind_some, bne, EL_ClockS (n := n) (a := a) (b := b) (k := k) m]
theorem E_ClockS {n : Nat} {a : List S_Clock} (h : (fun xs => xs.length ≤ 1048576 ∧ ∀ x ∈ xs, SM_Clock x) a) (hn : 1048577 ≤ n) : F_laws_eqClockS n a a = some true := by
  rw [F_laws_eqClockS, EL_ClockS (n := n)]
  have := eqL_same (f := F_laws_eqClock n) (no := some false) (k := fun (i : Int) => some true) (fun x hx => E_Clock (h.2 x hx) hn) h.1 n 0 (by omega) (by omega)
  simpa using this
theorem EL_Int64S {n : Nat} {a b : List Int} {k : Int → Option Bool} : ∀ (m : Nat) (i : Int), F_laws_eqInt64S_L1 a b k m i = eqL a b ((fun x y => some (x == y))) (some false) k m i
  | 0, _ => rfl
  | m + 1, i => by simp only [F_laws_eqInt64S_L1_s, eqL_s, Option.bind_some, bne, EL_Int64S (n := n) (a := a) (b := b) (k := k) m]
theorem E_Int64S {n : Nat} {a : List Int} (h : (fun xs => xs.length ≤ 1048576 ∧ ∀ x ∈ xs, (fun _ => True) x) a) (hn : 1048577 ≤ n) : F_laws_eqInt64S n a a = some true := by
  rw [F_laws_eqInt64S, EL_Int64S (n := n)]
  have := eqL_same (f := (fun x y => some (x == y))) (no := some false) (k := fun (i : Int) => some true) (fun x hx => by simp) h.1 n 0 (by omega) (by omega)
  simpa using this
theorem MT {n : Nat} {k : Int} (h0 : 0 ≤ k) (hk : k ≤ 4611686018427387904) (hn : 1048577 ≤ n) : ∃ t, F_laws_markText n k = some t := by
  rw [F_laws_markText]
  by_cases h : k ≤ 0
  · rw [decide_eq_true h]; exact ⟨_, rfl⟩
  rw [decide_eq_false h, cond_false]
  have : ∀ (j m : Nat) (k : Int) (t : ByteArray), 0 ≤ k → k < (10 : Int) ^ j → k ≤ 4611686018427387904 → j < m → t.size + j ≤ 1000 → ∃ r, F_laws_markText_L1 (fun i5 t6 => (Option.bind (catS ((ByteArray.mk #[109])) t6) fun t7 => (some t7))) m k t = some r := by
    intro j
    induction j with
    | zero =>
      intro m k t k0 k1 k2 hm ht
      obtain ⟨m, rfl⟩ : ∃ q, m = q + 1 := ⟨m - 1, by omega⟩
      rw [F_laws_markText_L1_s, decide_eq_false (by simp at k1; omega), cond_false, catS_ok (by show 1 + t.size ≤ _; omega)]
      exact ⟨_, rfl⟩
    | succ j ih =>
      intro m k t k0 k1 k2 hm ht
      obtain ⟨m, rfl⟩ : ∃ q, m = q + 1 := ⟨m - 1, by omega⟩
      rw [F_laws_markText_L1_s]
      by_cases h : k > 0
      · rw [decide_eq_true h, cond_true, catS_ok (by rw [strB_size]; simp; omega), Option.bind_some]
        have e : IntKind.wrap IntKind.i64 (Int.tdiv k 10) = k / 10 := by rw [Int.tdiv_eq_ediv_of_nonneg k0]; exact wrap64 (by omega) (by omega)
        rw [e]
        refine ih m (k / 10) _ (by omega) ?_ (by omega) (by omega) (by rw [ByteArray.size_append, strB_size]; simp; omega)
        rw [Int.pow_succ] at k1; omega
      · rw [decide_eq_false h, cond_false, catS_ok (by show 1 + t.size ≤ _; omega)]
        exact ⟨_, rfl⟩
  exact this 19 n k _ h0 (by omega) hk (by omega) (by decide)
theorem M_ClockS {n : Nat} {a : List S_Clock} {k : Int} (h : a.length ≤ 1048576) (h0 : 0 ≤ k) (hk : k ≤ 1152921504606846976) (hn : 1048577 ≤ n) : ∃ r, F_laws_markClockS n a k = some r ∧ k ≤ r.1 ∧ r.1 ≤ k + 67108864 := by
  obtain ⟨b, h1, h2⟩ := markT (LM := fun m k i l => F_laws_markClockS_L1 n (fun i8 i9 l10 => (some (i8, l10))) m k i l) 11 (by omega) (fun m k i l hi hi2 k0 k1 => by
      obtain ⟨t0, ht0⟩ := MT (n := n) (k := (k)) (by omega) (by omega) hn
      refine ⟨(S_Clock.mk t0 (k + 1) (k + 1 + 1) (k + 1 + 1 + 1) (k + 1 + 1 + 1 + 1) (k + 1 + 1 + 1 + 1 + 1) (k + 1 + 1 + 1 + 1 + 1 + 1) (Int.tmod (k + 1 + 1 + 1 + 1 + 1 + 1 + 1) 3 == 0) (k + 1 + 1 + 1 + 1 + 1 + 1 + 1 + 1) (k + 1 + 1 + 1 + 1 + 1 + 1 + 1 + 1 + 1) (k + 1 + 1 + 1 + 1 + 1 + 1 + 1 + 1 + 1 + 1)), ?_⟩
      rw [show k + ((11 : Nat) : Int) = k + 1 + 1 + 1 + 1 + 1 + 1 + 1 + 1 + 1 + 1 + 1 by omega]
      simp only [F_laws_markClockS_L1_s, dltE hi, cond_true, getI_elE hi, getI_setE hi, Option.bind_some, Int.toNat_natCast, List.set_set, wSE hi2, wrap64 (x := k + 1) (by omega) (by omega), wrap64 (x := k + 1 + 1) (by omega) (by omega), wrap64 (x := k + 1 + 1 + 1) (by omega) (by omega), wrap64 (x := k + 1 + 1 + 1 + 1) (by omega) (by omega), wrap64 (x := k + 1 + 1 + 1 + 1 + 1) (by omega) (by omega), wrap64 (x := k + 1 + 1 + 1 + 1 + 1 + 1) (by omega) (by omega), wrap64 (x := k + 1 + 1 + 1 + 1 + 1 + 1 + 1) (by omega) (by omega), wrap64 (x := k + 1 + 1 + 1 + 1 + 1 + 1 + 1 + 1) (by omega) (by omega), wrap64 (x := k + 1 + 1 + 1 + 1 + 1 + 1 + 1 + 1 + 1) (by omega) (by omega), wrap64 (x := k + 1 + 1 + 1 + 1 + 1 + 1 + 1 + 1 + 1 + 1) (by omega) (by omega), wrap64 (x := k + 1 + 1 + 1 + 1 + 1 + 1 + 1 + 1 + 1 + 1 + 1) (by omega) (by omega), ht0]) (fun m k l => by simp only [F_laws_markClockS_L1_s, dnlE, cond_false]) h h0 hk n 0 a (by omega) (by omega) rfl
  refine ⟨(k + ((11 : Nat) : Int) * a.length, b), by rw [F_laws_markClockS]; simpa using h1, by dsimp only; omega, by dsimp only; omega⟩
theorem M_Int64S {n : Nat} {a : List Int} {k : Int} (h : a.length ≤ 1048576) (h0 : 0 ≤ k) (hk : k ≤ 1152921504606846976) (hn : 1048577 ≤ n) : ∃ r, F_laws_markInt64S n a k = some r ∧ k ≤ r.1 ∧ r.1 ≤ k + 67108864 ∧ F_laws_heldInt64S n r.2 k = some r.1 := by
  obtain ⟨b, h1, h2, h3⟩ := markL (LM := fun m k i l => F_laws_markInt64S_L1 (fun i8 i9 l10 => (some (i8, l10))) m k i l) 1 (fun k x => (k)) (by omega) (fun m k i l hi hi2 k0 k1 => by
      rw [show k + ((1 : Nat) : Int) = k + 1 by omega]
      simp only [F_laws_markInt64S_L1_s, dltE hi, cond_true, getI_elE hi, getI_setE hi, Option.bind_some, Int.toNat_natCast, List.set_set, wSE hi2, wrap64 (x := k + 1) (by omega) (by omega)]) (fun m k l => by simp only [F_laws_markInt64S_L1_s, dnlE, cond_false]) h h0 hk n 0 a (by omega) (by omega) rfl (fun j _ hj => by omega)
  refine ⟨(k + ((1 : Nat) : Int) * a.length, b), by rw [F_laws_markInt64S]; simpa using h1, by dsimp only; omega, by dsimp only; omega, ?_⟩
  have := heldL (LH := fun m k i => F_laws_heldInt64S_L1 b (fun i5 i6 => (some i5)) m k i) 1 (fun k (x : Int) => (k)) (by omega) (fun m k i hi x hx hi2 k0 k1 => by
      rw [show k + ((1 : Nat) : Int) = k + 1 by omega]
      simp only [F_laws_heldInt64S_L1_s, dltE hi, cond_true, getI_elE hi, hx, Option.bind_some, bne_self_eq_false, cond_false, wSE hi2, wrap64 (x := k + 1) (by omega) (by omega)]) (fun m k => by simp only [F_laws_heldInt64S_L1_s, dnlE, cond_false]) (by omega) h0 hk h3 n 0 (by omega) (by omega)
  rw [h2] at this
  rw [F_laws_heldInt64S]; simpa using this
theorem Rd_2 : Rd Tryd.prog 2 (cInt .i64) (inK .i64) := Rd.int Tryd.underlying2
theorem Rd_9 : Rd Tryd.prog 9 cStr (fun s => s.size ≤ maxLen) := Rd.str Tryd.underlying9
theorem Rd_4 : Rd Tryd.prog 4 cBool (fun _ => True) := Rd.bool Tryd.underlying4
theorem Rd_56 : Rd Tryd.prog 56 C_Clock R_Clock := Rd.map (Rd.struct (fs := [_, _, _, _, _, _, _, _, _, _, _]) Tryd.underlying56 (by kernel_rfl) (RdF.cons Rd_9 rfl (by kernel_rfl) (RdF.cons Rd_2 rfl (by kernel_rfl) (RdF.cons Rd_2 rfl (by kernel_rfl) (RdF.cons Rd_2 rfl (by kernel_rfl) (RdF.cons Rd_2 rfl (by kernel_rfl) (RdF.cons Rd_2 rfl (by kernel_rfl) (RdF.cons Rd_2 rfl (by kernel_rfl) (RdF.cons Rd_4 rfl (by kernel_rfl) (RdF.cons Rd_2 rfl (by kernel_rfl) (RdF.cons Rd_2 rfl (by kernel_rfl) (RdF.one Rd_2 rfl (by kernel_rfl))))))))))))) (fun (x : S_Clock) => (x.Name, x.Place, x.Period, x.RiseAt, x.FallAt, x.Source, x.Divide, x.Invert, x.EarlyLatency, x.LateLatency, x.Uncertainty)) (fun p => (⟨p.1, p.2.1, p.2.2.1, p.2.2.2.1, p.2.2.2.2.1, p.2.2.2.2.2.1, p.2.2.2.2.2.2.1, p.2.2.2.2.2.2.2.1, p.2.2.2.2.2.2.2.2.1, p.2.2.2.2.2.2.2.2.2.1, p.2.2.2.2.2.2.2.2.2.2⟩ : S_Clock)) (fun _ => rfl)
theorem Rd_22 : Rd Tryd.prog 22 (cSl C_Clock) (fun xs => xs.length ≤ 9223372036854775807 ∧ ∀ x ∈ xs, R_Clock x) := Rd.slice Tryd.underlying22 (by kernel_rfl) rfl Rd_56
end Go.Proofs.YthjagnioabgceaaDoor
