/- The walks: every function that FnBorrowing reaches computes the plain function that is typed beside it; no condition. -/
import Derived.Test.YtmhmpfckdhiijaaWalkFnBorrowingP0
import Derived.Test.YtmhmpfckdhiijaaDat
set_option linter.all false
set_option maxRecDepth 20000
namespace Go.Proofs.Ytmhmpfckdhiijaa
open Go Go.RowKit Go.Eng
-- loop.example/g00861/spec.l18Code
def F_spec_l18Code (n : Nat) (a0_s : S_LatchSystem) : Option ((List Int) × Int) := (Option.bind (F_spec_IsLatchSystem n a0_s) fun r12 => (bif (!r12) then (some (([] : List Int), 1)) else (Option.bind (F_spec_l18Departures n a0_s) fun r33 => (bif (!r33.2) then (some (([] : List Int), 7)) else (some (r33.1, 0))))))
set_option maxHeartbeats 4000000 in
theorem W_spec_l18Code {n : Nat} {a0_s : S_LatchSystem} {r : (List Int) × Int} {w : World} {v1 : Value} {v3 : Value} (hF : F_spec_l18Code n a0_s = some r) (ha2 : slRep C_Latch w (Iv 0 w.heap.size) a0_s.Latches v1) (ha4 : slRep C_LatchLink w (Iv 0 w.heap.size) a0_s.Links v3) :
    Calls Try.prog 67 [.agg #[v1, v3]].toArray w (Ret fun u w2 => ∃ v0_0, u = .tuple #[v0_0, .int .i64 r.2] ∧ ownR (cInt .i64) w2 w.heap.size (Iv 0 0) 2 r.1 v0_0 ∧ Ext w w2) := by
  refine calls_of Try.func67 rfl Try.ntmps67 ?_
  have he0 : Ext w w := Ext.refl w
  unfold F_spec_l18Code at hF
  refine WC.seq ?_
  refine WC.region ?_
  refine TL.eff rfl rfl (eff_box rfl rfl) ?_
  rintro _ w6 ⟨b5, rfl, hn7⟩
  obtain ⟨hn7e, hn7s, hn7x, hb8⟩ := hn7
  have hb8 : Box w6 b5 [v1, v3] 38 := hb8
  have he10 : Ext w w6 := Ext.trans he0 hn7x
  have hz11 := (hn7x).size
  have hlo9 : w.heap.size ≤ b5 := by rw [hn7e]; exact (he0).size
  refine TL.yld rfl rfl (yld_assign rfl rfl) ?_
  refine TL.yld rfl rfl (yld_assign rfl rfl) ?_
  refine TL.done ?_
  refine NX.seq ?_
  refine WC.seq ?_
  refine WC.seq ?_
  refine WC.region ?_
  refine TL.yld rfl rfl (yld_loadN (us := [v1, v3]) rfl ag_38 rfl (Box.cells hb8) cn_38) ?_
  obtain ⟨r12, hr13, hF⟩ := bsome hF
  refine TL.eff rfl rfl (eff_call rfl gf_19 rfl (W_spec_IsLatchSystem hr13 ((slRep.old ha2 he10 (Nat.le_refl _)).wide (Nat.le_refl _) (he10).size) ((slRep.old ha4 he10 (Nat.le_refl _)).wide (Nat.le_refl _) (he10).size))) ?_
  rintro _ w14 ⟨rfl, hx15⟩
  have he16 : Ext w w14 := Ext.trans he10 hx15
  have hb8 := Box.ext hb8 hx15
  have hz17 := (hx15).size
  refine TL.yld rfl rfl (yld_not rfl rfl) ?_
  refine TL.done ?_
  refine NX.seq ?_
  refine WC.cond rfl ?_ ?_
  · intro hc18
    replace hF := bif_t hc18 hF
    refine WC.seq ?_
    refine WC.region ?_
    refine TL.eff rfl rfl (eff_buildSlice (c := (cInt .i64)) (xs := ([] : List Int)) (S := (Iv 0 0)) (uss := []) (out := []) rfl Try.underlying45 in_2 rfl rfl (fillL_all [] rfl rfl rfl) rfl rfl rfl rfl (one_rep (uss := []) (show reps _ _ _ _ _ from trivial) rfl) (fun k h => by have := h.2; omega) rfl) ?_
    rintro v19 w20 ⟨g21, hv22, hg23, hz24, hx25, hs26⟩
    have he27 : Ext w w20 := Ext.trans he16 hx25
    have hb8 := Box.ext hb8 hx25
    have hz28 := (hx25).size
    have hlo29 : w.heap.size ≤ g21 := by rw [hg23]; exact (he16).size
    have hbd30 := bd_of hv22
    clear hv22
    refine TL.yld rfl rfl (yld_assign rfl rfl) ?_
    refine TL.yld rfl rfl (yld_assign rfl rfl) ?_
    refine TL.done ?_
    refine NX.seq ?_
    refine WC.ret' ?_
    refine NX.then_r ?_
    obtain rfl := Option.some.inj hF
    exact NX.end (rs := [.tmp 2, .tmp 3]) (vs := [v19, .int .i64 1]) rfl ⟨rfl, rfl, trivial⟩ ⟨_, rfl, _, rfl, ownR.base hs26 (by omega), he27⟩
  · intro hc32
    replace hF := bif_f hc32 hF
    refine WC.skip' ?_
    refine NX.seq ?_
    refine WC.seq ?_
    refine WC.region ?_
    refine TL.yld rfl rfl (yld_loadN (us := [v1, v3]) rfl ag_38 rfl (Box.cells hb8) cn_38) ?_
    obtain ⟨r33, hr34, hF⟩ := bsome hF
    refine TL.eff rfl rfl (eff_call rfl gf_95 rfl (W_spec_l18Departures hr34 ((slRep.old ha2 he16 (Nat.le_refl _)).wide (Nat.le_refl _) (he16).size) ((slRep.old ha4 he16 (Nat.le_refl _)).wide (Nat.le_refl _) (he16).size))) ?_
    rintro _ w35 ⟨v37, rfl, hs38, hx36⟩
    have he41 : Ext w w35 := Ext.trans he16 hx36
    have hb8 := Box.ext hb8 hx36
    have hz42 := (hx36).size
    have hbd40 := ownR.blk hs38
    refine TL.yld rfl rfl (yld_move rfl rfl) ?_
    refine TL.yld rfl rfl (yld_extract rfl rfl rfl) ?_
    refine TL.yld rfl rfl (yld_extract rfl rfl rfl) ?_
    refine TL.yld rfl rfl (yld_assign rfl rfl) ?_
    refine TL.yld rfl rfl (yld_assign rfl rfl) ?_
    refine TL.done ?_
    refine NX.seq ?_
    refine WC.seq ?_
    refine WC.seq ?_
    refine WC.region ?_
    refine TL.yld rfl rfl (yld_move rfl rfl) ?_
    refine TL.yld rfl rfl (yld_not rfl rfl) ?_
    refine TL.done ?_
    refine NX.seq ?_
    refine WC.cond rfl ?_ ?_
    · intro hc43
      replace hF := bif_t hc43 hF
      refine WC.seq ?_
      refine WC.region ?_
      refine TL.eff rfl rfl (eff_buildSlice (c := (cInt .i64)) (xs := ([] : List Int)) (S := (Iv 0 0)) (uss := []) (out := []) rfl Try.underlying45 in_2 rfl rfl (fillL_all [] rfl rfl rfl) rfl rfl rfl rfl (one_rep (uss := []) (show reps _ _ _ _ _ from trivial) rfl) (fun k h => by have := h.2; omega) rfl) ?_
      rintro v44 w45 ⟨g46, hv47, hg48, hz49, hx50, hs51⟩
      have he52 : Ext w w45 := Ext.trans he41 hx50
      have hb8 := Box.ext hb8 hx50
      have hs38 := ownR.ext hs38 hx50
      have hz53 := (hx50).size
      have hlo54 : w.heap.size ≤ g46 := by rw [hg48]; exact (he41).size
      have hbd55 := bd_of hv47
      clear hv47
      refine TL.yld rfl rfl (yld_assign rfl rfl) ?_
      refine TL.yld rfl rfl (yld_assign rfl rfl) ?_
      refine TL.done ?_
      refine NX.seq ?_
      refine WC.ret' ?_
      refine NX.then_r ?_
      obtain rfl := Option.some.inj hF
      exact NX.end (rs := [.tmp 2, .tmp 3]) (vs := [v44, .int .i64 7]) rfl ⟨rfl, rfl, trivial⟩ ⟨_, rfl, _, rfl, ownR.base hs51 (by omega), he52⟩
    · intro hc57
      replace hF := bif_f hc57 hF
      refine WC.skip' ?_
      refine NX.seq ?_
      refine WC.seq ?_
      refine WC.region ?_
      refine TL.yld rfl rfl (yld_move rfl rfl) ?_
      refine TL.yld rfl rfl (yld_assign rfl rfl) ?_
      refine TL.yld rfl rfl (yld_assign rfl rfl) ?_
      refine TL.done ?_
      refine NX.seq ?_
      refine WC.ret' ?_
      obtain rfl := Option.some.inj hF
      exact NX.end (rs := [.tmp 2, .tmp 3]) (vs := [v37, .int .i64 0]) rfl ⟨rfl, rfl, trivial⟩ ⟨_, rfl, _, rfl, ownR.base hs38 (by omega), he41⟩

-- loop.example/g00861/spec.l18Arrivals
def F_spec_l18Arrivals_L1 (a0_s : S_LatchSystem) (a1_times : List Int) (k0 : Int → (List Int) → (List Bool) → Option (List Int)) : Nat → Int → (List Int) → (List Bool) → Option (List Int)
  | 0 => fun _ _ _ => none
  | m + 1 => fun i41 l43 l45 => (bif decide (i41 < (a0_s.Links.length : Int)) then (Option.bind (getI a0_s.Links i41) fun x48 => (Option.bind (getI a1_times x48.From) fun x68 => (Option.bind (getI l45 x48.To) fun x80 => (bif x80 then (Option.bind (getI l43 x48.To) fun x88 => (Option.bind (getI l43 x48.To) fun x95 => (Option.bind (getI l45 x48.To) fun x107 => (F_spec_l18Arrivals_L1 a0_s a1_times k0 m (IntKind.wrap IntKind.i64 (i41 + 1)) ((l43.set (x48.To).toNat (max (IntKind.wrap IntKind.i64 ((IntKind.wrap IntKind.i64 (x68 + x48.Delay)) - x48.Shift)) x88))) ((l45.set (x48.To).toNat true)))))) else (Option.bind (getI l43 x48.To) fun x120 => (Option.bind (getI l45 x48.To) fun x132 => (F_spec_l18Arrivals_L1 a0_s a1_times k0 m (IntKind.wrap IntKind.i64 (i41 + 1)) ((l43.set (x48.To).toNat (IntKind.wrap IntKind.i64 ((IntKind.wrap IntKind.i64 (x68 + x48.Delay)) - x48.Shift)))) ((l45.set (x48.To).toNat true))))))))) else (k0 i41 l43 l45))
theorem F_spec_l18Arrivals_L1_z (a0_s : S_LatchSystem) (a1_times : List Int) (k0 : Int → (List Int) → (List Bool) → Option (List Int)) (i41 : Int) (l43 : List Int) (l45 : List Bool) : F_spec_l18Arrivals_L1 a0_s a1_times k0 0 i41 l43 l45 = none := rfl
theorem F_spec_l18Arrivals_L1_s (m : Nat) (a0_s : S_LatchSystem) (a1_times : List Int) (k0 : Int → (List Int) → (List Bool) → Option (List Int)) (i41 : Int) (l43 : List Int) (l45 : List Bool) : F_spec_l18Arrivals_L1 a0_s a1_times k0 (m + 1) i41 l43 l45 = (bif decide (i41 < (a0_s.Links.length : Int)) then (Option.bind (getI a0_s.Links i41) fun x48 => (Option.bind (getI a1_times x48.From) fun x68 => (Option.bind (getI l45 x48.To) fun x80 => (bif x80 then (Option.bind (getI l43 x48.To) fun x88 => (Option.bind (getI l43 x48.To) fun x95 => (Option.bind (getI l45 x48.To) fun x107 => (F_spec_l18Arrivals_L1 a0_s a1_times k0 m (IntKind.wrap IntKind.i64 (i41 + 1)) ((l43.set (x48.To).toNat (max (IntKind.wrap IntKind.i64 ((IntKind.wrap IntKind.i64 (x68 + x48.Delay)) - x48.Shift)) x88))) ((l45.set (x48.To).toNat true)))))) else (Option.bind (getI l43 x48.To) fun x120 => (Option.bind (getI l45 x48.To) fun x132 => (F_spec_l18Arrivals_L1 a0_s a1_times k0 m (IntKind.wrap IntKind.i64 (i41 + 1)) ((l43.set (x48.To).toNat (IntKind.wrap IntKind.i64 ((IntKind.wrap IntKind.i64 (x68 + x48.Delay)) - x48.Shift)))) ((l45.set (x48.To).toNat true))))))))) else (k0 i41 l43 l45)) := rfl

def F_spec_l18Arrivals (n : Nat) (a0_s : S_LatchSystem) (a1_times : List Int) : Option (List Int) := (Option.bind (F_spec_l18Opens n a0_s) fun r14 => (Option.bind (mkN ((r14.length : Int)) 1) fun n24 => (F_spec_l18Arrivals_L1 a0_s a1_times (fun i41 l43 l45 => (some l43)) n 0 r14 (List.replicate n24 false))))
set_option maxHeartbeats 4000000 in
theorem W_spec_l18Arrivals {n : Nat} {a0_s : S_LatchSystem} {a1_times : List Int} {r : List Int} {w : World} {v1 : Value} {v3 : Value} {v5 : Value} (hF : F_spec_l18Arrivals n a0_s a1_times = some r) (ha2 : slRep C_Latch w (Iv 0 w.heap.size) a0_s.Latches v1) (ha4 : slRep C_LatchLink w (Iv 0 w.heap.size) a0_s.Links v3) (ha6 : slRep (cInt .i64) w (Iv 0 w.heap.size) a1_times v5) :
    Calls Try.prog 68 [.agg #[v1, v3], v5].toArray w (Ret fun u w2 => ∃ v0_0, u = v0_0 ∧ ownR (cInt .i64) w2 w.heap.size (Iv 0 0) 2 r v0_0 ∧ Ext w w2) := by
  refine calls_of Try.func68 rfl Try.ntmps68 ?_
  have he0 : Ext w w := Ext.refl w
  unfold F_spec_l18Arrivals at hF
  refine WC.seq ?_
  refine WC.region ?_
  refine TL.eff rfl rfl (eff_box rfl rfl) ?_
  rintro _ w8 ⟨b7, rfl, hn9⟩
  obtain ⟨hn9e, hn9s, hn9x, hb10⟩ := hn9
  have hb10 : Box w8 b7 [v1, v3] 38 := hb10
  have he12 : Ext w w8 := Ext.trans he0 hn9x
  have hz13 := (hn9x).size
  have hlo11 : w.heap.size ≤ b7 := by rw [hn9e]; exact (he0).size
  refine TL.yld rfl rfl (yld_assign rfl rfl) ?_
  refine TL.done ?_
  refine NX.seq ?_
  refine WC.seq ?_
  refine WC.region ?_
  refine TL.yld rfl rfl (yld_loadN (us := [v1, v3]) rfl ag_38 rfl (Box.cells hb10) cn_38) ?_
  obtain ⟨r14, hr15, hF⟩ := bsome hF
  refine TL.eff rfl rfl (eff_call rfl gf_96 rfl (W_spec_l18Opens hr15 ((slRep.old ha2 he12 (Nat.le_refl _)).wide (Nat.le_refl _) (he12).size) ((slRep.old ha4 he12 (Nat.le_refl _)).wide (Nat.le_refl _) (he12).size))) ?_
  rintro v18 w16 ⟨_, rfl, hs19, hx17⟩
  have he22 : Ext w w16 := Ext.trans he12 hx17
  have hb10 := Box.ext hb10 hx17
  have hz23 := (hx17).size
  have hbd21 := ownR.blk hs19
  refine TL.yld rfl rfl (yld_assign rfl rfl) ?_
  refine TL.done ?_
  refine NX.seq ?_
  refine WC.seq ?_
  refine WC.region ?_
  refine TL.yld rfl rfl (yld_move rfl rfl) ?_
  refine TL.yld rfl rfl (yld_len_own (c := (cInt .i64)) rfl Try.underlying45 rfl hs19) ?_
  obtain ⟨n24, hk25, hF⟩ := bsome hF
  refine TL.eff rfl rfl (eff_make (c := cBool) (z := false) rfl Try.underlying95 in_4 rfl rfl rfl hk25 rfl rfl (fun _ => rfl)) ?_
  rintro v26 w27 ⟨g28, hv29, hg30, hz31, hx32, hs33⟩
  have he34 : Ext w w27 := Ext.trans he22 hx32
  have hb10 := Box.ext hb10 hx32
  have hs19 := ownR.ext hs19 hx32
  have hz35 := (hx32).size
  have hlo36 : w.heap.size ≤ g28 := by rw [hg30]; exact (he22).size
  have hbd37 := bd_of hv29
  clear hv29
  refine TL.yld rfl rfl (yld_assign rfl rfl) ?_
  refine TL.done ?_
  refine NX.seq ?_
  refine WC.seq ?_
  refine WC.seq ?_
  refine WC.region ?_
  refine TL.yld rfl rfl (yld_assign rfl rfl) ?_
  refine TL.done ?_
  refine NX.seq ?_
  refine WC.block ?_
  refine WC.loop (fun m47 a wl => ∃ (i41 : Int) (l43 : List Int) (l45 : List Bool), Kn 60 [(1, v5), (2, .pointer (some ⟨b7, 0, none⟩)), (5, v18), (6, v26), (7, .int .i64 i41)] a ∧ Ext w wl ∧ w27.heap.size ≤ wl.heap.size ∧ Box wl b7 [v1, v3] 38 ∧ ownR (cInt .i64) wl (w8.heap.size) (Iv 0 0) 2 l43 v18 ∧ ownR cBool wl (g28) (Iv 0 0) 4 l45 v26 ∧ F_spec_l18Arrivals_L1 a0_s a1_times (fun i41 l43 l45 => (some l43)) m47 i41 l43 l45 = some r) n ?_ ?_
  · intro a hK; exact ⟨0, r14, (List.replicate n24 false), hK.weaken ⟨rfl, rfl, rfl, rfl, rfl, trivial⟩, he34, Nat.le_refl _, hb10, hs19, hs33, hF⟩
  · rintro m47 a w39 ⟨i41, l43, l45, hK, he40, hz48, hb42, hs44, hs46, hF⟩
    revert hK; revert a; refine (?_ : WC _ _ _ _ _ _)
    cases m47 with
    | zero => rw [F_spec_l18Arrivals_L1_z] at hF; cases hF
    | succ m47 =>
      rw [F_spec_l18Arrivals_L1_s] at hF
      refine WC.seq ?_
      refine WC.seq ?_
      refine WC.region ?_
      refine TL.yld rfl rfl (yld_move rfl rfl) ?_
      refine TL.yld rfl rfl (yld_fieldAddr rfl fo_38_1 rfl) ?_
      refine TL.yld rfl rfl (yld_load1 1 rfl ag_36 rfl (Box.cells hb42) rfl rfl) ?_
      refine TL.yld rfl rfl (ye_len (c := C_LatchLink) rfl Try.underlying36 rfl (slRep.old ha4 he40 (Nat.le_refl _))) ?_
      refine TL.yld rfl rfl (yld_lss rfl rfl rfl) ?_
      refine TL.done ?_
      refine NX.seq ?_
      refine WC.cond rfl ?_ ?_
      · intro hc49
        replace hF := bif_t hc49 hF
        refine WC.skip' ?_
        refine NX.seq ?_
        refine WC.seq ?_
        refine WC.block ?_
        refine WC.seq ?_
        refine WC.region ?_
        refine TL.yld rfl rfl (yld_fieldAddr rfl fo_38_1 rfl) ?_
        refine TL.yld rfl rfl (yld_load1 1 rfl ag_36 rfl (Box.cells hb42) rfl rfl) ?_
        refine TL.yld rfl rfl (yld_move rfl rfl) ?_
        obtain ⟨x50, hy51, hF⟩ := bsome hF
        refine TL.ye rfl rfl (ye_index (c := C_LatchLink) rfl Try.underlying36 cn_77 rfl rfl (slRep.old ha4 he40 (Nat.le_refl _)) hy51) ?_
        rintro _ ⟨b52, o53, us54, rfl, hib57, hr55, hcl56⟩
        have hib57 : 0 ≤ b52 ∧ b52 < w.heap.size := ⟨hib57.1, by have := hib57.2; omega⟩
        obtain rfl := C_LatchLink_open hr55
        refine TL.yld rfl rfl (yld_loadN (us := [.int .i64 x50.From, .int .i64 x50.To, .int .i64 x50.Delay, .int .i64 x50.Shift]) rfl ag_77 rfl hcl56 cn_77) ?_
        refine TL.eff rfl rfl (eff_alloc rfl zn_77) ?_
        rintro _ w59 ⟨b58, rfl, hn60⟩
        obtain ⟨hn60e, hn60s, hn60x, hb61⟩ := hn60
        have hb61 : Box w59 b58 [.int .i64 0, .int .i64 0, .int .i64 0, .int .i64 0] 77 := hb61
        have he63 : Ext w w59 := Ext.trans he40 hn60x
        have hb42 := Box.ext hb42 hn60x
        have hs44 := ownR.ext hs44 hn60x
        have hs46 := ownR.ext hs46 hn60x
        have hz64 := (hn60x).size
        have hlo62 : w.heap.size ≤ b58 := by rw [hn60e]; exact (he40).size
        refine TL.eff rfl rfl (eff_store rfl rfl rfl hb61 cn_77 rfl rfl) ?_
        rintro _ w65 ⟨hu66, hb67⟩
        have he68 : Ext w w65 := Below.trans he63 (Upd.below hu66 (by omega))
        have hb42 := Box.upd hb42 hu66 (by omega)
        have hs44 := ownR.upd hs44 hu66 (fun g hg => by have := hbd21 g hg; omega)
        have hs46 := ownR.upd hs46 hu66 (fun g hg => by have := hbd37 g hg; omega)
        have hz69 := (hu66).size
        have hb61 : Box w65 b58 [.int .i64 x50.From, .int .i64 x50.To, .int .i64 x50.Delay, .int .i64 x50.Shift] 77 := hb67
        refine TL.done ?_
        refine NX.seq ?_
        refine WC.seq ?_
        refine WC.quiet Try.hm (by kernel_rfl) ?_
        refine QL.yld rfl rfl (Yld.qui (yld_move rfl rfl)) ?_
        refine QL.yld rfl rfl (Yld.qui (yld_fieldAddr rfl fo_77_0 rfl)) ?_
        refine QL.yld rfl rfl (Yld.qui (yld_load1 0 rfl ag_2 rfl (Box.cells hb61) rfl rfl)) ?_
        obtain ⟨x70, hy71, hF⟩ := bsome hF
        refine QL.ye rfl rfl (ye_index (c := (cInt .i64)) rfl Try.underlying45 cn_2 rfl rfl (slRep.old ha6 he68 (Nat.le_refl _)) hy71) ?_
        rintro _ ⟨b72, o73, us74, rfl, hib77, hr75, hcl76⟩
        have hib77 : 0 ≤ b72 ∧ b72 < w.heap.size := ⟨hib77.1, by have := hib77.2; omega⟩
        obtain rfl := hr75
        refine QL.yld rfl rfl (Yld.qui (yld_load1 0 rfl ag_2 rfl hcl76 rfl rfl)) ?_
        refine QL.yld rfl rfl (Yld.qui (yld_fieldAddr rfl fo_77_2 rfl)) ?_
        refine QL.yld rfl rfl (Yld.qui (yld_load1 2 rfl ag_2 rfl (Box.cells hb61) rfl rfl)) ?_
        refine QL.yld rfl rfl (Yld.qui (yld_add rfl rfl rfl)) ?_
        refine QL.yld rfl rfl (Yld.qui (yld_fieldAddr rfl fo_77_3 rfl)) ?_
        refine QL.yld rfl rfl (Yld.qui (yld_load1 3 rfl ag_2 rfl (Box.cells hb61) rfl rfl)) ?_
        refine QL.yld rfl rfl (Yld.qui (yld_sub rfl rfl rfl)) ?_
        refine QL.yld rfl rfl (Yld.qui (yld_assign rfl rfl)) ?_
        refine QL.done fun w78 hx79 => ?_
        have he80 : Ext w w78 := Ext.trans he68 hx79
        have hb42 := Box.ext hb42 hx79
        have hb61 := Box.ext hb61 hx79
        have hs44 := ownR.ext hs44 hx79
        have hs46 := ownR.ext hs46 hx79
        have hz81 := (hx79).size
        refine NX.seq ?_
        refine WC.seq ?_
        refine WC.seq ?_
        refine WC.region ?_
        refine TL.yld rfl rfl (yld_move rfl rfl) ?_
        refine TL.yld rfl rfl (yld_fieldAddr rfl fo_77_1 rfl) ?_
        refine TL.yld rfl rfl (yld_load1 1 rfl ag_2 rfl (Box.cells hb61) rfl rfl) ?_
        obtain ⟨x82, hy83, hF⟩ := bsome hF
        refine TL.ye rfl rfl (ye_index_own (c := cBool) rfl Try.underlying95 cn_4 rfl rfl hs46 hy83) ?_
        rintro _ ⟨g84, us86, rfl, hg85, hr87, hcl88⟩
        have hr87r := hr87
        obtain rfl := hr87
        refine TL.yld rfl rfl (yld_load1 0 rfl ag_4 rfl hcl88 rfl rfl) ?_
        refine TL.done ?_
        refine NX.seq ?_
        refine WC.cond rfl ?_ ?_
        · intro hc89
          replace hF := bif_t hc89 hF
          refine WC.region ?_
          refine TL.yld rfl rfl (yld_move rfl rfl) ?_
          refine TL.yld rfl rfl (yld_move rfl rfl) ?_
          refine TL.yld rfl rfl (yld_fieldAddr rfl fo_77_1 rfl) ?_
          refine TL.yld rfl rfl (yld_load1 1 rfl ag_2 rfl (Box.cells hb61) rfl rfl) ?_
          obtain ⟨x90, hy91, hF⟩ := bsome hF
          refine TL.ye rfl rfl (ye_index_own (c := (cInt .i64)) rfl Try.underlying45 cn_2 rfl rfl hs44 hy91) ?_
          rintro _ ⟨g92, us94, rfl, hg93, hr95, hcl96⟩
          have hr95r := hr95
          obtain rfl := hr95
          refine TL.yld rfl rfl (yld_load1 0 rfl ag_2 rfl hcl96 rfl rfl) ?_
          refine TL.yld rfl rfl (yld_max2 rfl rfl rfl) ?_
          refine TL.yld rfl rfl (yld_assign rfl rfl) ?_
          refine TL.done ?_
          refine NX.seq ?_
          refine WC.seq ?_
          refine WC.region ?_
          refine TL.yld rfl rfl (yld_move rfl rfl) ?_
          refine TL.yld rfl rfl (yld_fieldAddr rfl fo_77_1 rfl) ?_
          refine TL.yld rfl rfl (yld_load1 1 rfl ag_2 rfl (Box.cells hb61) rfl rfl) ?_
          refine TL.yld rfl rfl (yld_move rfl rfl) ?_
          obtain ⟨x97, hy98, hF⟩ := bsome hF
          refine TL.ye rfl rfl (ye_index_own (c := (cInt .i64)) rfl Try.underlying45 cn_2 rfl rfl hs44 hy98) ?_
          rintro _ ⟨g99, us101, rfl, hg100, hr102, hcl103⟩
          have hr102r := hr102
          obtain rfl := hr102
          refine TL.eff rfl rfl (eff_store_own (c := (cInt .i64)) (us' := [.int .i64 (max (IntKind.wrap IntKind.i64 ((IntKind.wrap IntKind.i64 (x70 + x50.Delay)) - x50.Shift)) x90)]) (y' := max (IntKind.wrap IntKind.i64 ((IntKind.wrap IntKind.i64 (x70 + x50.Delay)) - x50.Shift)) x90) 0 _ rfl rfl rfl hs44 hg100 hy98 rfl cn_2 rfl hr102r hcl103 rfl rfl rfl (fun k h => absurd h.2 (Nat.not_lt_zero k))) ?_
          rintro _ w104 ⟨hu105, hs106⟩
          have he107 : Ext w w104 := Below.trans he80 (Upd.below hu105 (by have := hbd21 _ hg100; omega))
          have hb42 := Box.upd hb42 hu105 (by have := hbd21 _ hg100; omega)
          have hb61 := Box.upd hb61 hu105 (by have := hbd21 _ hg100; omega)
          have hs46 := ownR.upd hs46 hu105 (fun q hq => by have := hbd37 q hq; have := hbd21 _ hg100; omega)
          have hz108 := (hu105).size
          refine TL.done ?_
          refine NX.seq ?_
          refine WC.region ?_
          refine TL.yld rfl rfl (yld_move rfl rfl) ?_
          refine TL.yld rfl rfl (yld_fieldAddr rfl fo_77_1 rfl) ?_
          refine TL.yld rfl rfl (yld_load1 1 rfl ag_2 rfl (Box.cells hb61) rfl rfl) ?_
          obtain ⟨x109, hy110, hF⟩ := bsome hF
          refine TL.ye rfl rfl (ye_index_own (c := cBool) rfl Try.underlying95 cn_4 rfl rfl hs46 hy110) ?_
          rintro _ ⟨g111, us113, rfl, hg112, hr114, hcl115⟩
          have hr114r := hr114
          obtain rfl := hr114
          refine TL.eff rfl rfl (eff_store_own (c := cBool) (us' := [.bool true]) (y' := true) 0 _ rfl rfl rfl hs46 hg112 hy110 rfl cn_4 rfl hr114r hcl115 rfl rfl rfl (fun k h => absurd h.2 (Nat.not_lt_zero k))) ?_
          rintro _ w116 ⟨hu117, hs118⟩
          have he119 : Ext w w116 := Below.trans he107 (Upd.below hu117 (by have := hbd37 _ hg112; omega))
          have hb42 := Box.upd hb42 hu117 (by have := hbd37 _ hg112; omega)
          have hb61 := Box.upd hb61 hu117 (by have := hbd37 _ hg112; omega)
          have hs106 := ownR.upd hs106 hu117 (fun q hq => by have := hbd21 q hq; have := hbd37 _ hg112; omega)
          have hz120 := (hu117).size
          refine TL.done ?_
          refine NX.blk_n ?_
          refine NX.seq ?_
          refine WC.region ?_
          refine TL.yld rfl rfl (yld_move rfl rfl) ?_
          refine TL.yld rfl rfl (yld_add rfl rfl rfl) ?_
          refine TL.yld rfl rfl (yld_assign rfl rfl) ?_
          refine TL.done ?_
          refine NX.then_n ?_
          intro a hK; exact ⟨m47, Nat.lt_succ_self m47, (IntKind.wrap IntKind.i64 (i41 + 1)), ((l43.set (x50.To).toNat (max (IntKind.wrap IntKind.i64 ((IntKind.wrap IntKind.i64 (x70 + x50.Delay)) - x50.Shift)) x90))), ((l45.set (x50.To).toNat true)), hK.weaken ⟨rfl, rfl, rfl, rfl, rfl, trivial⟩, he119, (by omega), hb42, hs106, hs118, hF⟩
        · intro hc121
          replace hF := bif_f hc121 hF
          refine WC.skip' ?_
          refine NX.seq ?_
          refine WC.seq ?_
          refine WC.region ?_
          refine TL.yld rfl rfl (yld_move rfl rfl) ?_
          refine TL.yld rfl rfl (yld_fieldAddr rfl fo_77_1 rfl) ?_
          refine TL.yld rfl rfl (yld_load1 1 rfl ag_2 rfl (Box.cells hb61) rfl rfl) ?_
          refine TL.yld rfl rfl (yld_move rfl rfl) ?_
          obtain ⟨x122, hy123, hF⟩ := bsome hF
          refine TL.ye rfl rfl (ye_index_own (c := (cInt .i64)) rfl Try.underlying45 cn_2 rfl rfl hs44 hy123) ?_
          rintro _ ⟨g124, us126, rfl, hg125, hr127, hcl128⟩
          have hr127r := hr127
          obtain rfl := hr127
          refine TL.eff rfl rfl (eff_store_own (c := (cInt .i64)) (us' := [.int .i64 (IntKind.wrap IntKind.i64 ((IntKind.wrap IntKind.i64 (x70 + x50.Delay)) - x50.Shift))]) (y' := IntKind.wrap IntKind.i64 ((IntKind.wrap IntKind.i64 (x70 + x50.Delay)) - x50.Shift)) 0 _ rfl rfl rfl hs44 hg125 hy123 rfl cn_2 rfl hr127r hcl128 rfl rfl rfl (fun k h => absurd h.2 (Nat.not_lt_zero k))) ?_
          rintro _ w129 ⟨hu130, hs131⟩
          have he132 : Ext w w129 := Below.trans he80 (Upd.below hu130 (by have := hbd21 _ hg125; omega))
          have hb42 := Box.upd hb42 hu130 (by have := hbd21 _ hg125; omega)
          have hb61 := Box.upd hb61 hu130 (by have := hbd21 _ hg125; omega)
          have hs46 := ownR.upd hs46 hu130 (fun q hq => by have := hbd37 q hq; have := hbd21 _ hg125; omega)
          have hz133 := (hu130).size
          refine TL.done ?_
          refine NX.seq ?_
          refine WC.region ?_
          refine TL.yld rfl rfl (yld_move rfl rfl) ?_
          refine TL.yld rfl rfl (yld_fieldAddr rfl fo_77_1 rfl) ?_
          refine TL.yld rfl rfl (yld_load1 1 rfl ag_2 rfl (Box.cells hb61) rfl rfl) ?_
          obtain ⟨x134, hy135, hF⟩ := bsome hF
          refine TL.ye rfl rfl (ye_index_own (c := cBool) rfl Try.underlying95 cn_4 rfl rfl hs46 hy135) ?_
          rintro _ ⟨g136, us138, rfl, hg137, hr139, hcl140⟩
          have hr139r := hr139
          obtain rfl := hr139
          refine TL.eff rfl rfl (eff_store_own (c := cBool) (us' := [.bool true]) (y' := true) 0 _ rfl rfl rfl hs46 hg137 hy135 rfl cn_4 rfl hr139r hcl140 rfl rfl rfl (fun k h => absurd h.2 (Nat.not_lt_zero k))) ?_
          rintro _ w141 ⟨hu142, hs143⟩
          have he144 : Ext w w141 := Below.trans he132 (Upd.below hu142 (by have := hbd37 _ hg137; omega))
          have hb42 := Box.upd hb42 hu142 (by have := hbd37 _ hg137; omega)
          have hb61 := Box.upd hb61 hu142 (by have := hbd37 _ hg137; omega)
          have hs131 := ownR.upd hs131 hu142 (fun q hq => by have := hbd21 q hq; have := hbd37 _ hg137; omega)
          have hz145 := (hu142).size
          refine TL.done ?_
          refine NX.blk_n ?_
          refine NX.seq ?_
          refine WC.region ?_
          refine TL.yld rfl rfl (yld_move rfl rfl) ?_
          refine TL.yld rfl rfl (yld_add rfl rfl rfl) ?_
          refine TL.yld rfl rfl (yld_assign rfl rfl) ?_
          refine TL.done ?_
          refine NX.then_n ?_
          intro a hK; exact ⟨m47, Nat.lt_succ_self m47, (IntKind.wrap IntKind.i64 (i41 + 1)), ((l43.set (x50.To).toNat (IntKind.wrap IntKind.i64 ((IntKind.wrap IntKind.i64 (x70 + x50.Delay)) - x50.Shift)))), ((l45.set (x50.To).toNat true)), hK.weaken ⟨rfl, rfl, rfl, rfl, rfl, trivial⟩, he144, (by omega), hb42, hs131, hs143, hF⟩
      · intro hc146
        replace hF := bif_f hc146 hF
        refine WC.exit' ?_
        refine NX.then_e ?_
        refine NX.then_e ?_
        refine NX.blk_hit ?_
        refine NX.seq ?_
        refine WC.seq ?_
        refine WC.region ?_
        refine TL.yld rfl rfl (yld_move rfl rfl) ?_
        refine TL.yld rfl rfl (yld_assign rfl rfl) ?_
        refine TL.done ?_
        refine NX.seq ?_
        refine WC.ret' ?_
        obtain rfl := Option.some.inj hF
        exact NX.end (rs := [.tmp 4]) (vs := [v18]) rfl ⟨rfl, trivial⟩ ⟨_, rfl, _, rfl, ownR.base hs44 (by omega), he40⟩

-- loop.example/g00861/spec.LatchArrivals
def F_spec_LatchArrivals (n : Nat) (a0_s : S_LatchSystem) : Option ((List Int) × Int) := (Option.bind (F_spec_l18Code n a0_s) fun r12 => (bif (r12.2 != 0) then (some (([] : List Int), r12.2)) else (Option.bind (F_spec_l18Arrivals n a0_s r12.1) fun r37 => (some (r37, 0)))))
set_option maxHeartbeats 4000000 in
theorem W_spec_LatchArrivals {n : Nat} {a0_s : S_LatchSystem} {r : (List Int) × Int} {w : World} {v1 : Value} {v3 : Value} (hF : F_spec_LatchArrivals n a0_s = some r) (ha2 : slRep C_Latch w (Iv 0 w.heap.size) a0_s.Latches v1) (ha4 : slRep C_LatchLink w (Iv 0 w.heap.size) a0_s.Links v3) :
    Calls Try.prog 26 [.agg #[v1, v3]].toArray w (Ret fun u w2 => ∃ v0_0, u = .tuple #[v0_0, .int .i64 r.2] ∧ ownR (cInt .i64) w2 w.heap.size (Iv 0 0) 2 r.1 v0_0 ∧ Ext w w2) := by
  refine calls_of Try.func26 rfl Try.ntmps26 ?_
  have he0 : Ext w w := Ext.refl w
  unfold F_spec_LatchArrivals at hF
  refine WC.seq ?_
  refine WC.region ?_
  refine TL.eff rfl rfl (eff_box rfl rfl) ?_
  rintro _ w6 ⟨b5, rfl, hn7⟩
  obtain ⟨hn7e, hn7s, hn7x, hb8⟩ := hn7
  have hb8 : Box w6 b5 [v1, v3] 38 := hb8
  have he10 : Ext w w6 := Ext.trans he0 hn7x
  have hz11 := (hn7x).size
  have hlo9 : w.heap.size ≤ b5 := by rw [hn7e]; exact (he0).size
  refine TL.yld rfl rfl (yld_assign rfl rfl) ?_
  refine TL.yld rfl rfl (yld_assign rfl rfl) ?_
  refine TL.done ?_
  refine NX.seq ?_
  refine WC.seq ?_
  refine WC.region ?_
  refine TL.yld rfl rfl (yld_loadN (us := [v1, v3]) rfl ag_38 rfl (Box.cells hb8) cn_38) ?_
  obtain ⟨r12, hr13, hF⟩ := bsome hF
  refine TL.eff rfl rfl (eff_call rfl gf_67 rfl (W_spec_l18Code hr13 ((slRep.old ha2 he10 (Nat.le_refl _)).wide (Nat.le_refl _) (he10).size) ((slRep.old ha4 he10 (Nat.le_refl _)).wide (Nat.le_refl _) (he10).size))) ?_
  rintro _ w14 ⟨v16, rfl, hs17, hx15⟩
  have he20 : Ext w w14 := Ext.trans he10 hx15
  have hb8 := Box.ext hb8 hx15
  have hz21 := (hx15).size
  have hbd19 := ownR.blk hs17
  refine TL.yld rfl rfl (yld_move rfl rfl) ?_
  refine TL.yld rfl rfl (yld_extract rfl rfl rfl) ?_
  refine TL.yld rfl rfl (yld_extract rfl rfl rfl) ?_
  refine TL.yld rfl rfl (yld_assign rfl rfl) ?_
  refine TL.yld rfl rfl (yld_assign rfl rfl) ?_
  refine TL.done ?_
  refine NX.seq ?_
  refine WC.seq ?_
  refine WC.seq ?_
  refine WC.region ?_
  refine TL.yld rfl rfl (yld_move rfl rfl) ?_
  refine TL.yld rfl rfl (yld_neq rfl rfl rfl) ?_
  refine TL.done ?_
  refine NX.seq ?_
  refine WC.cond rfl ?_ ?_
  · intro hc22
    replace hF := bif_t hc22 hF
    refine WC.seq ?_
    refine WC.region ?_
    refine TL.eff rfl rfl (eff_buildSlice (c := (cInt .i64)) (xs := ([] : List Int)) (S := (Iv 0 0)) (uss := []) (out := []) rfl Try.underlying45 in_2 rfl rfl (fillL_all [] rfl rfl rfl) rfl rfl rfl rfl (one_rep (uss := []) (show reps _ _ _ _ _ from trivial) rfl) (fun k h => by have := h.2; omega) rfl) ?_
    rintro v23 w24 ⟨g25, hv26, hg27, hz28, hx29, hs30⟩
    have he31 : Ext w w24 := Ext.trans he20 hx29
    have hb8 := Box.ext hb8 hx29
    have hs17 := ownR.ext hs17 hx29
    have hz32 := (hx29).size
    have hlo33 : w.heap.size ≤ g25 := by rw [hg27]; exact (he20).size
    have hbd34 := bd_of hv26
    clear hv26
    refine TL.yld rfl rfl (yld_move rfl rfl) ?_
    refine TL.yld rfl rfl (yld_assign rfl rfl) ?_
    refine TL.yld rfl rfl (yld_assign rfl rfl) ?_
    refine TL.done ?_
    refine NX.seq ?_
    refine WC.ret' ?_
    refine NX.then_r ?_
    obtain rfl := Option.some.inj hF
    exact NX.end (rs := [.tmp 2, .tmp 3]) (vs := [v23, .int .i64 r12.2]) rfl ⟨rfl, rfl, trivial⟩ ⟨_, rfl, _, rfl, ownR.base hs30 (by omega), he31⟩
  · intro hc36
    replace hF := bif_f hc36 hF
    refine WC.skip' ?_
    refine NX.seq ?_
    refine WC.seq ?_
    refine WC.region ?_
    refine TL.yld rfl rfl (yld_loadN (us := [v1, v3]) rfl ag_38 rfl (Box.cells hb8) cn_38) ?_
    refine TL.yld rfl rfl (yld_move rfl rfl) ?_
    obtain ⟨r37, hr38, hF⟩ := bsome hF
    refine TL.eff rfl rfl (eff_call rfl gf_68 rfl (W_spec_l18Arrivals hr38 ((slRep.old ha2 he20 (Nat.le_refl _)).wide (Nat.le_refl _) (he20).size) ((slRep.old ha4 he20 (Nat.le_refl _)).wide (Nat.le_refl _) (he20).size) (ownR.slf hs17 (Nat.zero_le _) (Nat.le_refl _)))) ?_
    rintro v41 w39 ⟨_, rfl, hs42, hx40⟩
    have he45 : Ext w w39 := Ext.trans he20 hx40
    have hb8 := Box.ext hb8 hx40
    have hs17 := ownR.ext hs17 hx40
    have hz46 := (hx40).size
    have hbd44 := ownR.blk hs42
    refine TL.yld rfl rfl (yld_assign rfl rfl) ?_
    refine TL.yld rfl rfl (yld_assign rfl rfl) ?_
    refine TL.done ?_
    refine NX.seq ?_
    refine WC.ret' ?_
    obtain rfl := Option.some.inj hF
    exact NX.end (rs := [.tmp 2, .tmp 3]) (vs := [v41, .int .i64 0]) rfl ⟨rfl, rfl, trivial⟩ ⟨_, rfl, _, rfl, ownR.base hs42 (by omega), he45⟩

-- loop.example/g00861/laws.likeInts
def F_laws_likeInts_L1 (a0_a : List Int) (a1_b : List Int) (k0 : Int → Option Bool) : Nat → Int → Option Bool
  | 0 => fun _ => none
  | m + 1 => fun i9 => (bif decide (i9 < (a0_a.length : Int)) then (Option.bind (getI a0_a i9) fun x11 => (Option.bind (getI a1_b i9) fun x19 => (bif (x11 != x19) then (some false) else (F_laws_likeInts_L1 a0_a a1_b k0 m (IntKind.wrap IntKind.i64 (i9 + 1)))))) else (k0 i9))
theorem F_laws_likeInts_L1_z (a0_a : List Int) (a1_b : List Int) (k0 : Int → Option Bool) (i9 : Int) : F_laws_likeInts_L1 a0_a a1_b k0 0 i9 = none := rfl
theorem F_laws_likeInts_L1_s (m : Nat) (a0_a : List Int) (a1_b : List Int) (k0 : Int → Option Bool) (i9 : Int) : F_laws_likeInts_L1 a0_a a1_b k0 (m + 1) i9 = (bif decide (i9 < (a0_a.length : Int)) then (Option.bind (getI a0_a i9) fun x11 => (Option.bind (getI a1_b i9) fun x19 => (bif (x11 != x19) then (some false) else (F_laws_likeInts_L1 a0_a a1_b k0 m (IntKind.wrap IntKind.i64 (i9 + 1)))))) else (k0 i9)) := rfl

def F_laws_likeInts (n : Nat) (a0_a : List Int) (a1_b : List Int) : Option Bool := (bif (((a0_a.length : Int)) != ((a1_b.length : Int))) then (some false) else (F_laws_likeInts_L1 a0_a a1_b (fun i9 => (some true)) n 0))
set_option maxHeartbeats 4000000 in
theorem W_laws_likeInts {n : Nat} {a0_a : List Int} {a1_b : List Int} {r : Bool} {w : World} {v1 : Value} {v3 : Value} (hF : F_laws_likeInts n a0_a a1_b = some r) (ha2 : slRep (cInt .i64) w (Iv 0 w.heap.size) a0_a v1) (ha4 : slRep (cInt .i64) w (Iv 0 w.heap.size) a1_b v3) :
    Calls Try.prog 27 [v1, v3].toArray w (Ret fun u w2 => u = .bool r ∧ Ext w w2) := by
  refine calls_of Try.func27 rfl Try.ntmps27 ?_
  have he0 : Ext w w := Ext.refl w
  unfold F_laws_likeInts at hF
  refine WC.seq ?_
  refine WC.region ?_
  refine TL.yld rfl rfl (yld_assign rfl rfl) ?_
  refine TL.done ?_
  refine NX.seq ?_
  refine WC.seq ?_
  refine WC.seq ?_
  refine WC.region ?_
  refine TL.yld rfl rfl (yld_move rfl rfl) ?_
  refine TL.yld rfl rfl (ye_len (c := (cInt .i64)) rfl Try.underlying45 rfl (slRep.old ha2 he0 (Nat.le_refl _))) ?_
  refine TL.yld rfl rfl (yld_move rfl rfl) ?_
  refine TL.yld rfl rfl (ye_len (c := (cInt .i64)) rfl Try.underlying45 rfl (slRep.old ha4 he0 (Nat.le_refl _))) ?_
  refine TL.yld rfl rfl (yld_neq rfl rfl rfl) ?_
  refine TL.done ?_
  refine NX.seq ?_
  refine WC.cond rfl ?_ ?_
  · intro hc5
    replace hF := bif_t hc5 hF
    refine WC.seq ?_
    refine WC.region ?_
    refine TL.yld rfl rfl (yld_assign rfl rfl) ?_
    refine TL.done ?_
    refine NX.seq ?_
    refine WC.ret' ?_
    refine NX.then_r ?_
    obtain rfl := Option.some.inj hF
    exact NX.end (rs := [.tmp 4]) (vs := [.bool false]) rfl ⟨rfl, trivial⟩ ⟨_, rfl, rfl, he0⟩
  · intro hc6
    replace hF := bif_f hc6 hF
    refine WC.skip' ?_
    refine NX.seq ?_
    refine WC.seq ?_
    refine WC.seq ?_
    refine WC.region ?_
    refine TL.yld rfl rfl (yld_assign rfl rfl) ?_
    refine TL.done ?_
    refine NX.seq ?_
    refine WC.block ?_
    refine WC.loop (fun m10 a wl => ∃ (i9 : Int), Kn 26 [(0, v1), (1, v3), (5, .int .i64 i9)] a ∧ Ext w wl ∧ w.heap.size ≤ wl.heap.size ∧ F_laws_likeInts_L1 a0_a a1_b (fun i9 => (some true)) m10 i9 = some r) n ?_ ?_
    · intro a hK; exact ⟨0, hK.weaken ⟨rfl, rfl, rfl, trivial⟩, he0, Nat.le_refl _, hF⟩
    · rintro m10 a w7 ⟨i9, hK, he8, hz11, hF⟩
      revert hK; revert a; refine (?_ : WC _ _ _ _ _ _)
      cases m10 with
      | zero => rw [F_laws_likeInts_L1_z] at hF; cases hF
      | succ m10 =>
        rw [F_laws_likeInts_L1_s] at hF
        refine WC.seq ?_
        refine WC.seq ?_
        refine WC.region ?_
        refine TL.yld rfl rfl (yld_move rfl rfl) ?_
        refine TL.yld rfl rfl (yld_move rfl rfl) ?_
        refine TL.yld rfl rfl (ye_len (c := (cInt .i64)) rfl Try.underlying45 rfl (slRep.old ha2 he8 (Nat.le_refl _))) ?_
        refine TL.yld rfl rfl (yld_lss rfl rfl rfl) ?_
        refine TL.done ?_
        refine NX.seq ?_
        refine WC.cond rfl ?_ ?_
        · intro hc12
          replace hF := bif_t hc12 hF
          refine WC.skip' ?_
          refine NX.seq ?_
          refine WC.seq ?_
          refine WC.block ?_
          refine WC.seq ?_
          refine WC.quiet Try.hm (by kernel_rfl) ?_
          refine QL.yld rfl rfl (Yld.qui (yld_move rfl rfl)) ?_
          refine QL.yld rfl rfl (Yld.qui (yld_move rfl rfl)) ?_
          obtain ⟨x13, hy14, hF⟩ := bsome hF
          refine QL.ye rfl rfl (ye_index (c := (cInt .i64)) rfl Try.underlying45 cn_2 rfl rfl (slRep.old ha2 he8 (Nat.le_refl _)) hy14) ?_
          rintro _ ⟨b15, o16, us17, rfl, hib20, hr18, hcl19⟩
          have hib20 : 0 ≤ b15 ∧ b15 < w.heap.size := ⟨hib20.1, by have := hib20.2; omega⟩
          obtain rfl := hr18
          refine QL.yld rfl rfl (Yld.qui (yld_load1 0 rfl ag_2 rfl hcl19 rfl rfl)) ?_
          refine QL.yld rfl rfl (Yld.qui (yld_move rfl rfl)) ?_
          refine QL.yld rfl rfl (Yld.qui (yld_move rfl rfl)) ?_
          obtain ⟨x21, hy22, hF⟩ := bsome hF
          refine QL.ye rfl rfl (ye_index (c := (cInt .i64)) rfl Try.underlying45 cn_2 rfl rfl (slRep.old ha4 he8 (Nat.le_refl _)) hy22) ?_
          rintro _ ⟨b23, o24, us25, rfl, hib28, hr26, hcl27⟩
          have hib28 : 0 ≤ b23 ∧ b23 < w.heap.size := ⟨hib28.1, by have := hib28.2; omega⟩
          obtain rfl := hr26
          refine QL.yld rfl rfl (Yld.qui (yld_load1 0 rfl ag_2 rfl hcl27 rfl rfl)) ?_
          refine QL.yld rfl rfl (Yld.qui (yld_neq rfl rfl rfl)) ?_
          refine QL.done fun w29 hx30 => ?_
          have he31 : Ext w w29 := Ext.trans he8 hx30
          have hz32 := (hx30).size
          refine NX.seq ?_
          refine WC.cond rfl ?_ ?_
          · intro hc33
            replace hF := bif_t hc33 hF
            refine WC.seq ?_
            refine WC.region ?_
            refine TL.yld rfl rfl (yld_assign rfl rfl) ?_
            refine TL.done ?_
            refine NX.seq ?_
            refine WC.ret' ?_
            refine NX.blk_r ?_
            refine NX.then_r ?_
            refine NX.then_r ?_
            refine NX.blk_r ?_
            refine NX.then_r ?_
            obtain rfl := Option.some.inj hF
            exact NX.end (rs := [.tmp 4]) (vs := [.bool false]) rfl ⟨rfl, trivial⟩ ⟨_, rfl, rfl, he31⟩
          · intro hc34
            replace hF := bif_f hc34 hF
            refine WC.skip' ?_
            refine NX.blk_n ?_
            refine NX.seq ?_
            refine WC.region ?_
            refine TL.yld rfl rfl (yld_move rfl rfl) ?_
            refine TL.yld rfl rfl (yld_add rfl rfl rfl) ?_
            refine TL.yld rfl rfl (yld_assign rfl rfl) ?_
            refine TL.done ?_
            refine NX.then_n ?_
            intro a hK; exact ⟨m10, Nat.lt_succ_self m10, (IntKind.wrap IntKind.i64 (i9 + 1)), hK.weaken ⟨rfl, rfl, rfl, trivial⟩, he31, (by omega), hF⟩
        · intro hc35
          replace hF := bif_f hc35 hF
          refine WC.exit' ?_
          refine NX.then_e ?_
          refine NX.then_e ?_
          refine NX.blk_hit ?_
          refine NX.seq ?_
          refine WC.seq ?_
          refine WC.region ?_
          refine TL.yld rfl rfl (yld_assign rfl rfl) ?_
          refine TL.done ?_
          refine NX.seq ?_
          refine WC.ret' ?_
          obtain rfl := Option.some.inj hF
          exact NX.end (rs := [.tmp 4]) (vs := [.bool true]) rfl ⟨rfl, trivial⟩ ⟨_, rfl, rfl, he8⟩

-- loop.example/g00861/impl.BorrowedTimes
def F_impl_BorrowedTimes_L1 (a0_s : S_LatchSystem) (r12 : (List Int) × (List Int) × Int) (k0 : Int → (List Int) → Option ((List Int) × Int)) : Nat → Int → (List Int) → Option ((List Int) × Int)
  | 0 => fun _ _ => none
  | m + 1 => fun i29 l31 => (bif decide (i29 < (r12.2.1.length : Int)) then (Option.bind (getI l31 i29) fun x34 => (Option.bind (getI a0_s.Latches i29) fun x41 => (Option.bind (getI l31 i29) fun x49 => (F_impl_BorrowedTimes_L1 a0_s r12 k0 m (IntKind.wrap IntKind.i64 (i29 + 1)) ((l31.set (i29).toNat (max 0 (IntKind.wrap IntKind.i64 (x34 - x41.Open))))))))) else (k0 i29 l31))
theorem F_impl_BorrowedTimes_L1_z (a0_s : S_LatchSystem) (r12 : (List Int) × (List Int) × Int) (k0 : Int → (List Int) → Option ((List Int) × Int)) (i29 : Int) (l31 : List Int) : F_impl_BorrowedTimes_L1 a0_s r12 k0 0 i29 l31 = none := rfl
theorem F_impl_BorrowedTimes_L1_s (m : Nat) (a0_s : S_LatchSystem) (r12 : (List Int) × (List Int) × Int) (k0 : Int → (List Int) → Option ((List Int) × Int)) (i29 : Int) (l31 : List Int) : F_impl_BorrowedTimes_L1 a0_s r12 k0 (m + 1) i29 l31 = (bif decide (i29 < (r12.2.1.length : Int)) then (Option.bind (getI l31 i29) fun x34 => (Option.bind (getI a0_s.Latches i29) fun x41 => (Option.bind (getI l31 i29) fun x49 => (F_impl_BorrowedTimes_L1 a0_s r12 k0 m (IntKind.wrap IntKind.i64 (i29 + 1)) ((l31.set (i29).toNat (max 0 (IntKind.wrap IntKind.i64 (x34 - x41.Open))))))))) else (k0 i29 l31)) := rfl

def F_impl_BorrowedTimes (n : Nat) (a0_s : S_LatchSystem) : Option ((List Int) × Int) := (Option.bind (F_impl_latchTimes n a0_s) fun r12 => (F_impl_BorrowedTimes_L1 a0_s r12 (fun i29 l31 => (some (l31, r12.2.2))) n 0 r12.2.1))
set_option maxHeartbeats 4000000 in
theorem W_impl_BorrowedTimes {n : Nat} {a0_s : S_LatchSystem} {r : (List Int) × Int} {w : World} {v1 : Value} {v3 : Value} (hF : F_impl_BorrowedTimes n a0_s = some r) (ha2 : slRep C_Latch w (Iv 0 w.heap.size) a0_s.Latches v1) (ha4 : slRep C_LatchLink w (Iv 0 w.heap.size) a0_s.Links v3) :
    Calls Try.prog 28 [.agg #[v1, v3]].toArray w (Ret fun u w2 => ∃ v0_0, u = .tuple #[v0_0, .int .i64 r.2] ∧ ownR (cInt .i64) w2 w.heap.size (Iv 0 0) 2 r.1 v0_0 ∧ Ext w w2) := by
  refine calls_of Try.func28 rfl Try.ntmps28 ?_
  have he0 : Ext w w := Ext.refl w
  unfold F_impl_BorrowedTimes at hF
  refine WC.seq ?_
  refine WC.region ?_
  refine TL.eff rfl rfl (eff_box rfl rfl) ?_
  rintro _ w6 ⟨b5, rfl, hn7⟩
  obtain ⟨hn7e, hn7s, hn7x, hb8⟩ := hn7
  have hb8 : Box w6 b5 [v1, v3] 38 := hb8
  have he10 : Ext w w6 := Ext.trans he0 hn7x
  have hz11 := (hn7x).size
  have hlo9 : w.heap.size ≤ b5 := by rw [hn7e]; exact (he0).size
  refine TL.yld rfl rfl (yld_assign rfl rfl) ?_
  refine TL.yld rfl rfl (yld_assign rfl rfl) ?_
  refine TL.done ?_
  refine NX.seq ?_
  refine WC.seq ?_
  refine WC.region ?_
  refine TL.yld rfl rfl (yld_loadN (us := [v1, v3]) rfl ag_38 rfl (Box.cells hb8) cn_38) ?_
  obtain ⟨r12, hr13, hF⟩ := bsome hF
  refine TL.eff rfl rfl (eff_call rfl gf_66 rfl (W_impl_latchTimes hr13 ((slRep.old ha2 he10 (Nat.le_refl _)).wide (Nat.le_refl _) (he10).size) ((slRep.old ha4 he10 (Nat.le_refl _)).wide (Nat.le_refl _) (he10).size))) ?_
  rintro _ w14 ⟨v16, v20, rfl, hs17, hs21, hp24, hx15⟩
  have he25 : Ext w w14 := Ext.trans he10 hx15
  have hb8 := Box.ext hb8 hx15
  have hz26 := (hx15).size
  have hbd19 := ownR.blk hs17
  have hbd23 := ownR.blk hs21
  refine TL.yld rfl rfl (yld_move rfl rfl) ?_
  refine TL.yld rfl rfl (yld_extract rfl rfl rfl) ?_
  refine TL.yld rfl rfl (yld_extract rfl rfl rfl) ?_
  refine TL.yld rfl rfl (yld_extract rfl rfl rfl) ?_
  refine TL.yld rfl rfl (yld_assign rfl rfl) ?_
  refine TL.yld rfl rfl (yld_assign rfl rfl) ?_
  refine TL.yld rfl rfl (yld_assign rfl rfl) ?_
  refine TL.done ?_
  refine NX.seq ?_
  refine WC.seq ?_
  refine WC.seq ?_
  refine WC.region ?_
  refine TL.yld rfl rfl (yld_move rfl rfl) ?_
  refine TL.yld rfl rfl (yld_len_own (c := (cInt .i64)) rfl Try.underlying45 rfl hs21) ?_
  refine TL.yld rfl rfl (yld_move rfl rfl) ?_
  refine TL.done ?_
  refine NX.seq ?_
  refine WC.block ?_
  refine WC.loop (fun m33 a wl => ∃ (i29 : Int) (l31 : List Int), Kn 37 [(1, .pointer (some ⟨b5, 0, none⟩)), (5, v20), (6, .int .i64 r12.2.2), (15, .int .i64 ((r12.2.1.length : Int))), (16, .int .i64 i29)] a ∧ Ext w wl ∧ w14.heap.size ≤ wl.heap.size ∧ Box wl b5 [v1, v3] 38 ∧ ownR (cInt .i64) wl (w6.heap.size) (Iv 0 0) 2 l31 v20 ∧ F_impl_BorrowedTimes_L1 a0_s r12 (fun i29 l31 => (some (l31, r12.2.2))) m33 i29 l31 = some r) n ?_ ?_
  · intro a hK; exact ⟨0, r12.2.1, hK.weaken ⟨rfl, rfl, rfl, rfl, rfl, trivial⟩, he25, Nat.le_refl _, hb8, hs21, hF⟩
  · rintro m33 a w27 ⟨i29, l31, hK, he28, hz34, hb30, hs32, hF⟩
    revert hK; revert a; refine (?_ : WC _ _ _ _ _ _)
    cases m33 with
    | zero => rw [F_impl_BorrowedTimes_L1_z] at hF; cases hF
    | succ m33 =>
      rw [F_impl_BorrowedTimes_L1_s] at hF
      refine WC.seq ?_
      refine WC.region ?_
      refine TL.yld rfl rfl (yld_lss rfl rfl rfl) ?_
      refine TL.done ?_
      refine NX.seq ?_
      refine WC.seq ?_
      refine WC.cond rfl ?_ ?_
      · intro hc35
        replace hF := bif_t hc35 hF
        refine WC.skip' ?_
        refine NX.seq ?_
        refine WC.seq ?_
        refine WC.block ?_
        refine WC.seq ?_
        refine WC.region ?_
        refine TL.yld rfl rfl (yld_move rfl rfl) ?_
        refine TL.yld rfl rfl (yld_assign rfl rfl) ?_
        refine TL.done ?_
        refine NX.seq ?_
        obtain ⟨x36, hy37, hF⟩ := bsome hF
        obtain ⟨x43, hy44, hF⟩ := bsome hF
        obtain ⟨x51, hy52, hF⟩ := bsome hF
        refine WC.held 14 Try.hm fun w63 hx64 => ?_
        have he65 : Ext w w63 := Ext.trans he28 hx64
        have hb30 := Box.ext hb30 hx64
        have hs32 := ownR.ext hs32 hx64
        have hz66 := (hx64).size
        refine HL.yld 0 (by kernel_rfl) rfl (by kernel_rfl) rfl rfl (yld_move rfl rfl) ?_
        refine HL.yld 1 (by kernel_rfl) rfl (by kernel_rfl) rfl rfl (yld_move rfl rfl) ?_
        refine HL.yld 2 (by kernel_rfl) rfl (by kernel_rfl) rfl rfl (yld_move rfl rfl) ?_
        refine HL.yld 3 (by kernel_rfl) rfl (by kernel_rfl) rfl rfl (yld_move rfl rfl) ?_
        refine HL.ye 4 (by kernel_rfl) rfl (by kernel_rfl) rfl rfl (ye_index_own (c := (cInt .i64)) rfl Try.underlying45 cn_2 rfl rfl hs32 hy37) ?_
        rintro _ ⟨g67, us69, rfl, hg68, hr70, hcl71⟩
        have hr70r := hr70
        obtain rfl := hr70
        refine HL.yld 5 (by kernel_rfl) rfl (by kernel_rfl) rfl rfl (yld_load1 0 rfl ag_2 rfl hcl71 rfl rfl) ?_
        refine HL.yld 6 (by kernel_rfl) rfl (by kernel_rfl) rfl rfl (yld_fieldAddr rfl fo_38_0 rfl) ?_
        refine HL.yld 7 (by kernel_rfl) rfl (by kernel_rfl) rfl rfl (yld_load1 0 rfl ag_35 rfl (Box.cells hb30) rfl rfl) ?_
        refine HL.yld 8 (by kernel_rfl) rfl (by kernel_rfl) rfl rfl (yld_move rfl rfl) ?_
        refine HL.ye 9 (by kernel_rfl) rfl (by kernel_rfl) rfl rfl (ye_index (c := C_Latch) rfl Try.underlying35 cn_50 rfl rfl (slRep.old ha2 he65 (Nat.le_refl _)) hy44) ?_
        rintro _ ⟨b72, o73, us74, rfl, hib77, hr75, hcl76⟩
        have hib77 : 0 ≤ b72 ∧ b72 < w.heap.size := ⟨hib77.1, by have := hib77.2; omega⟩
        obtain rfl := C_Latch_open hr75
        refine HL.yld 10 (by kernel_rfl) rfl (by kernel_rfl) rfl rfl (yld_fieldAddr rfl fo_50_0 rfl) ?_
        refine HL.yld 11 (by kernel_rfl) rfl (by kernel_rfl) rfl rfl (yld_load1 0 rfl ag_2 rfl hcl76 rfl rfl) ?_
        refine HL.yld 12 (by kernel_rfl) rfl (by kernel_rfl) rfl rfl (yld_sub rfl rfl rfl) ?_
        refine HL.yld 13 (by kernel_rfl) rfl (by kernel_rfl) rfl rfl (yld_max2 rfl rfl rfl) ?_
        refine HL.tail rfl (by kernel_rfl) rfl ?_
        refine TL.ye rfl rfl (ye_index_own (c := (cInt .i64)) rfl Try.underlying45 cn_2 rfl rfl hs32 hy52) ?_
        rintro _ ⟨g78, us80, rfl, hg79, hr81, hcl82⟩
        have hr81r := hr81
        obtain rfl := hr81
        refine TL.eff rfl rfl (eff_store_own (c := (cInt .i64)) (us' := [.int .i64 (max 0 (IntKind.wrap IntKind.i64 (x36 - x43.Open)))]) (y' := max 0 (IntKind.wrap IntKind.i64 (x36 - x43.Open))) 0 _ rfl rfl rfl hs32 hg79 hy52 rfl cn_2 rfl hr81r hcl82 rfl rfl rfl (fun k h => absurd h.2 (Nat.not_lt_zero k))) ?_
        rintro _ w83 ⟨hu84, hs85⟩
        have he86 : Ext w w83 := Below.trans he65 (Upd.below hu84 (by have := hbd23 _ hg79; omega))
        have hb30 := Box.upd hb30 hu84 (by have := hbd23 _ hg79; omega)
        have hz87 := (hu84).size
        refine TL.noPan (l := []) ?_
        refine NX.blk_n ?_
        refine NX.seq ?_
        refine WC.region ?_
        refine TL.yld rfl rfl (yld_add rfl rfl rfl) ?_
        refine TL.yld rfl rfl (yld_move rfl rfl) ?_
        refine TL.done ?_
        refine NX.then_n ?_
        intro a hK; exact ⟨m33, Nat.lt_succ_self m33, (IntKind.wrap IntKind.i64 (i29 + 1)), ((l31.set (i29).toNat (max 0 (IntKind.wrap IntKind.i64 (x36 - x43.Open))))), hK.weaken ⟨rfl, rfl, rfl, rfl, rfl, trivial⟩, he86, (by omega), hb30, hs85, hF⟩
      · intro hc88
        replace hF := bif_f hc88 hF
        refine WC.exit' ?_
        refine NX.then_e ?_
        refine NX.then_e ?_
        refine NX.blk_hit ?_
        refine NX.seq ?_
        refine WC.seq ?_
        refine WC.region ?_
        refine TL.yld rfl rfl (yld_move rfl rfl) ?_
        refine TL.yld rfl rfl (yld_move rfl rfl) ?_
        refine TL.yld rfl rfl (yld_assign rfl rfl) ?_
        refine TL.yld rfl rfl (yld_assign rfl rfl) ?_
        refine TL.done ?_
        refine NX.seq ?_
        refine WC.ret' ?_
        obtain rfl := Option.some.inj hF
        exact NX.end (rs := [.tmp 2, .tmp 3]) (vs := [v20, .int .i64 r12.2.2]) rfl ⟨rfl, rfl, trivial⟩ ⟨_, rfl, _, rfl, ownR.base hs32 (by omega), he28⟩

-- loop.example/g00861/impl.LatchSlacks
def F_impl_LatchSlacks_L1 (a0_s : S_LatchSystem) (r12 : (List Int) × (List Int) × Int) (k0 : Int → (List Int) → Option ((List Int) × Int)) : Nat → Int → (List Int) → Option ((List Int) × Int)
  | 0 => fun _ _ => none
  | m + 1 => fun i29 l31 => (bif decide (i29 < (r12.2.1.length : Int)) then (Option.bind (getI a0_s.Latches i29) fun x34 => (Option.bind (getI l31 i29) fun x42 => (Option.bind (getI l31 i29) fun x49 => (F_impl_LatchSlacks_L1 a0_s r12 k0 m (IntKind.wrap IntKind.i64 (i29 + 1)) ((l31.set (i29).toNat (IntKind.wrap IntKind.i64 (x34.Close - x42)))))))) else (k0 i29 l31))
theorem F_impl_LatchSlacks_L1_z (a0_s : S_LatchSystem) (r12 : (List Int) × (List Int) × Int) (k0 : Int → (List Int) → Option ((List Int) × Int)) (i29 : Int) (l31 : List Int) : F_impl_LatchSlacks_L1 a0_s r12 k0 0 i29 l31 = none := rfl
theorem F_impl_LatchSlacks_L1_s (m : Nat) (a0_s : S_LatchSystem) (r12 : (List Int) × (List Int) × Int) (k0 : Int → (List Int) → Option ((List Int) × Int)) (i29 : Int) (l31 : List Int) : F_impl_LatchSlacks_L1 a0_s r12 k0 (m + 1) i29 l31 = (bif decide (i29 < (r12.2.1.length : Int)) then (Option.bind (getI a0_s.Latches i29) fun x34 => (Option.bind (getI l31 i29) fun x42 => (Option.bind (getI l31 i29) fun x49 => (F_impl_LatchSlacks_L1 a0_s r12 k0 m (IntKind.wrap IntKind.i64 (i29 + 1)) ((l31.set (i29).toNat (IntKind.wrap IntKind.i64 (x34.Close - x42)))))))) else (k0 i29 l31)) := rfl

def F_impl_LatchSlacks (n : Nat) (a0_s : S_LatchSystem) : Option ((List Int) × Int) := (Option.bind (F_impl_latchTimes n a0_s) fun r12 => (F_impl_LatchSlacks_L1 a0_s r12 (fun i29 l31 => (some (l31, r12.2.2))) n 0 r12.2.1))
set_option maxHeartbeats 4000000 in
theorem W_impl_LatchSlacks {n : Nat} {a0_s : S_LatchSystem} {r : (List Int) × Int} {w : World} {v1 : Value} {v3 : Value} (hF : F_impl_LatchSlacks n a0_s = some r) (ha2 : slRep C_Latch w (Iv 0 w.heap.size) a0_s.Latches v1) (ha4 : slRep C_LatchLink w (Iv 0 w.heap.size) a0_s.Links v3) :
    Calls Try.prog 29 [.agg #[v1, v3]].toArray w (Ret fun u w2 => ∃ v0_0, u = .tuple #[v0_0, .int .i64 r.2] ∧ ownR (cInt .i64) w2 w.heap.size (Iv 0 0) 2 r.1 v0_0 ∧ Ext w w2) := by
  refine calls_of Try.func29 rfl Try.ntmps29 ?_
  have he0 : Ext w w := Ext.refl w
  unfold F_impl_LatchSlacks at hF
  refine WC.seq ?_
  refine WC.region ?_
  refine TL.eff rfl rfl (eff_box rfl rfl) ?_
  rintro _ w6 ⟨b5, rfl, hn7⟩
  obtain ⟨hn7e, hn7s, hn7x, hb8⟩ := hn7
  have hb8 : Box w6 b5 [v1, v3] 38 := hb8
  have he10 : Ext w w6 := Ext.trans he0 hn7x
  have hz11 := (hn7x).size
  have hlo9 : w.heap.size ≤ b5 := by rw [hn7e]; exact (he0).size
  refine TL.yld rfl rfl (yld_assign rfl rfl) ?_
  refine TL.yld rfl rfl (yld_assign rfl rfl) ?_
  refine TL.done ?_
  refine NX.seq ?_
  refine WC.seq ?_
  refine WC.region ?_
  refine TL.yld rfl rfl (yld_loadN (us := [v1, v3]) rfl ag_38 rfl (Box.cells hb8) cn_38) ?_
  obtain ⟨r12, hr13, hF⟩ := bsome hF
  refine TL.eff rfl rfl (eff_call rfl gf_66 rfl (W_impl_latchTimes hr13 ((slRep.old ha2 he10 (Nat.le_refl _)).wide (Nat.le_refl _) (he10).size) ((slRep.old ha4 he10 (Nat.le_refl _)).wide (Nat.le_refl _) (he10).size))) ?_
  rintro _ w14 ⟨v16, v20, rfl, hs17, hs21, hp24, hx15⟩
  have he25 : Ext w w14 := Ext.trans he10 hx15
  have hb8 := Box.ext hb8 hx15
  have hz26 := (hx15).size
  have hbd19 := ownR.blk hs17
  have hbd23 := ownR.blk hs21
  refine TL.yld rfl rfl (yld_move rfl rfl) ?_
  refine TL.yld rfl rfl (yld_extract rfl rfl rfl) ?_
  refine TL.yld rfl rfl (yld_extract rfl rfl rfl) ?_
  refine TL.yld rfl rfl (yld_extract rfl rfl rfl) ?_
  refine TL.yld rfl rfl (yld_assign rfl rfl) ?_
  refine TL.yld rfl rfl (yld_assign rfl rfl) ?_
  refine TL.yld rfl rfl (yld_assign rfl rfl) ?_
  refine TL.done ?_
  refine NX.seq ?_
  refine WC.seq ?_
  refine WC.seq ?_
  refine WC.region ?_
  refine TL.yld rfl rfl (yld_move rfl rfl) ?_
  refine TL.yld rfl rfl (yld_len_own (c := (cInt .i64)) rfl Try.underlying45 rfl hs21) ?_
  refine TL.yld rfl rfl (yld_move rfl rfl) ?_
  refine TL.done ?_
  refine NX.seq ?_
  refine WC.block ?_
  refine WC.loop (fun m33 a wl => ∃ (i29 : Int) (l31 : List Int), Kn 36 [(1, .pointer (some ⟨b5, 0, none⟩)), (5, v20), (6, .int .i64 r12.2.2), (15, .int .i64 ((r12.2.1.length : Int))), (16, .int .i64 i29)] a ∧ Ext w wl ∧ w14.heap.size ≤ wl.heap.size ∧ Box wl b5 [v1, v3] 38 ∧ ownR (cInt .i64) wl (w6.heap.size) (Iv 0 0) 2 l31 v20 ∧ F_impl_LatchSlacks_L1 a0_s r12 (fun i29 l31 => (some (l31, r12.2.2))) m33 i29 l31 = some r) n ?_ ?_
  · intro a hK; exact ⟨0, r12.2.1, hK.weaken ⟨rfl, rfl, rfl, rfl, rfl, trivial⟩, he25, Nat.le_refl _, hb8, hs21, hF⟩
  · rintro m33 a w27 ⟨i29, l31, hK, he28, hz34, hb30, hs32, hF⟩
    revert hK; revert a; refine (?_ : WC _ _ _ _ _ _)
    cases m33 with
    | zero => rw [F_impl_LatchSlacks_L1_z] at hF; cases hF
    | succ m33 =>
      rw [F_impl_LatchSlacks_L1_s] at hF
      refine WC.seq ?_
      refine WC.region ?_
      refine TL.yld rfl rfl (yld_lss rfl rfl rfl) ?_
      refine TL.done ?_
      refine NX.seq ?_
      refine WC.seq ?_
      refine WC.cond rfl ?_ ?_
      · intro hc35
        replace hF := bif_t hc35 hF
        refine WC.skip' ?_
        refine NX.seq ?_
        refine WC.seq ?_
        refine WC.block ?_
        refine WC.seq ?_
        refine WC.region ?_
        refine TL.yld rfl rfl (yld_move rfl rfl) ?_
        refine TL.yld rfl rfl (yld_assign rfl rfl) ?_
        refine TL.done ?_
        refine NX.seq ?_
        obtain ⟨x36, hy37, hF⟩ := bsome hF
        obtain ⟨x44, hy45, hF⟩ := bsome hF
        obtain ⟨x51, hy52, hF⟩ := bsome hF
        refine WC.held 13 Try.hm fun w63 hx64 => ?_
        have he65 : Ext w w63 := Ext.trans he28 hx64
        have hb30 := Box.ext hb30 hx64
        have hs32 := ownR.ext hs32 hx64
        have hz66 := (hx64).size
        refine HL.yld 0 (by kernel_rfl) rfl (by kernel_rfl) rfl rfl (yld_move rfl rfl) ?_
        refine HL.yld 1 (by kernel_rfl) rfl (by kernel_rfl) rfl rfl (yld_move rfl rfl) ?_
        refine HL.yld 2 (by kernel_rfl) rfl (by kernel_rfl) rfl rfl (yld_fieldAddr rfl fo_38_0 rfl) ?_
        refine HL.yld 3 (by kernel_rfl) rfl (by kernel_rfl) rfl rfl (yld_load1 0 rfl ag_35 rfl (Box.cells hb30) rfl rfl) ?_
        refine HL.yld 4 (by kernel_rfl) rfl (by kernel_rfl) rfl rfl (yld_move rfl rfl) ?_
        refine HL.ye 5 (by kernel_rfl) rfl (by kernel_rfl) rfl rfl (ye_index (c := C_Latch) rfl Try.underlying35 cn_50 rfl rfl (slRep.old ha2 he65 (Nat.le_refl _)) hy37) ?_
        rintro _ ⟨b67, o68, us69, rfl, hib72, hr70, hcl71⟩
        have hib72 : 0 ≤ b67 ∧ b67 < w.heap.size := ⟨hib72.1, by have := hib72.2; omega⟩
        obtain rfl := C_Latch_open hr70
        refine HL.yld 6 (by kernel_rfl) rfl (by kernel_rfl) rfl rfl (yld_fieldAddr rfl fo_50_1 rfl) ?_
        refine HL.yld 7 (by kernel_rfl) rfl (by kernel_rfl) rfl rfl (yld_load1 1 rfl ag_2 rfl hcl71 rfl rfl) ?_
        refine HL.yld 8 (by kernel_rfl) rfl (by kernel_rfl) rfl rfl (yld_move rfl rfl) ?_
        refine HL.yld 9 (by kernel_rfl) rfl (by kernel_rfl) rfl rfl (yld_move rfl rfl) ?_
        refine HL.ye 10 (by kernel_rfl) rfl (by kernel_rfl) rfl rfl (ye_index_own (c := (cInt .i64)) rfl Try.underlying45 cn_2 rfl rfl hs32 hy45) ?_
        rintro _ ⟨g73, us75, rfl, hg74, hr76, hcl77⟩
        have hr76r := hr76
        obtain rfl := hr76
        refine HL.yld 11 (by kernel_rfl) rfl (by kernel_rfl) rfl rfl (yld_load1 0 rfl ag_2 rfl hcl77 rfl rfl) ?_
        refine HL.yld 12 (by kernel_rfl) rfl (by kernel_rfl) rfl rfl (yld_sub rfl rfl rfl) ?_
        refine HL.tail rfl (by kernel_rfl) rfl ?_
        refine TL.ye rfl rfl (ye_index_own (c := (cInt .i64)) rfl Try.underlying45 cn_2 rfl rfl hs32 hy52) ?_
        rintro _ ⟨g78, us80, rfl, hg79, hr81, hcl82⟩
        have hr81r := hr81
        obtain rfl := hr81
        refine TL.eff rfl rfl (eff_store_own (c := (cInt .i64)) (us' := [.int .i64 (IntKind.wrap IntKind.i64 (x36.Close - x44))]) (y' := IntKind.wrap IntKind.i64 (x36.Close - x44)) 0 _ rfl rfl rfl hs32 hg79 hy52 rfl cn_2 rfl hr81r hcl82 rfl rfl rfl (fun k h => absurd h.2 (Nat.not_lt_zero k))) ?_
        rintro _ w83 ⟨hu84, hs85⟩
        have he86 : Ext w w83 := Below.trans he65 (Upd.below hu84 (by have := hbd23 _ hg79; omega))
        have hb30 := Box.upd hb30 hu84 (by have := hbd23 _ hg79; omega)
        have hz87 := (hu84).size
        refine TL.noPan (l := []) ?_
        refine NX.blk_n ?_
        refine NX.seq ?_
        refine WC.region ?_
        refine TL.yld rfl rfl (yld_add rfl rfl rfl) ?_
        refine TL.yld rfl rfl (yld_move rfl rfl) ?_
        refine TL.done ?_
        refine NX.then_n ?_
        intro a hK; exact ⟨m33, Nat.lt_succ_self m33, (IntKind.wrap IntKind.i64 (i29 + 1)), ((l31.set (i29).toNat (IntKind.wrap IntKind.i64 (x36.Close - x44)))), hK.weaken ⟨rfl, rfl, rfl, rfl, rfl, trivial⟩, he86, (by omega), hb30, hs85, hF⟩
      · intro hc88
        replace hF := bif_f hc88 hF
        refine WC.exit' ?_
        refine NX.then_e ?_
        refine NX.then_e ?_
        refine NX.blk_hit ?_
        refine NX.seq ?_
        refine WC.seq ?_
        refine WC.region ?_
        refine TL.yld rfl rfl (yld_move rfl rfl) ?_
        refine TL.yld rfl rfl (yld_move rfl rfl) ?_
        refine TL.yld rfl rfl (yld_assign rfl rfl) ?_
        refine TL.yld rfl rfl (yld_assign rfl rfl) ?_
        refine TL.done ?_
        refine NX.seq ?_
        refine WC.ret' ?_
        obtain rfl := Option.some.inj hF
        exact NX.end (rs := [.tmp 2, .tmp 3]) (vs := [v20, .int .i64 r12.2.2]) rfl ⟨rfl, rfl, trivial⟩ ⟨_, rfl, _, rfl, ownR.base hs32 (by omega), he28⟩

-- loop.example/g00861/impl.LatchDepartures
def F_impl_LatchDepartures (n : Nat) (a0_s : S_LatchSystem) : Option ((List Int) × Int) := (Option.bind (F_impl_latchTimes n a0_s) fun r12 => (some (r12.1, r12.2.2)))
set_option maxHeartbeats 4000000 in
theorem W_impl_LatchDepartures {n : Nat} {a0_s : S_LatchSystem} {r : (List Int) × Int} {w : World} {v1 : Value} {v3 : Value} (hF : F_impl_LatchDepartures n a0_s = some r) (ha2 : slRep C_Latch w (Iv 0 w.heap.size) a0_s.Latches v1) (ha4 : slRep C_LatchLink w (Iv 0 w.heap.size) a0_s.Links v3) :
    Calls Try.prog 30 [.agg #[v1, v3]].toArray w (Ret fun u w2 => ∃ v0_0, u = .tuple #[v0_0, .int .i64 r.2] ∧ ownR (cInt .i64) w2 w.heap.size (Iv 0 0) 2 r.1 v0_0 ∧ Ext w w2) := by
  refine calls_of Try.func30 rfl Try.ntmps30 ?_
  have he0 : Ext w w := Ext.refl w
  unfold F_impl_LatchDepartures at hF
  refine WC.seq ?_
  refine WC.region ?_
  refine TL.eff rfl rfl (eff_box rfl rfl) ?_
  rintro _ w6 ⟨b5, rfl, hn7⟩
  obtain ⟨hn7e, hn7s, hn7x, hb8⟩ := hn7
  have hb8 : Box w6 b5 [v1, v3] 38 := hb8
  have he10 : Ext w w6 := Ext.trans he0 hn7x
  have hz11 := (hn7x).size
  have hlo9 : w.heap.size ≤ b5 := by rw [hn7e]; exact (he0).size
  refine TL.yld rfl rfl (yld_assign rfl rfl) ?_
  refine TL.yld rfl rfl (yld_assign rfl rfl) ?_
  refine TL.done ?_
  refine NX.seq ?_
  refine WC.seq ?_
  refine WC.region ?_
  refine TL.yld rfl rfl (yld_loadN (us := [v1, v3]) rfl ag_38 rfl (Box.cells hb8) cn_38) ?_
  obtain ⟨r12, hr13, hF⟩ := bsome hF
  refine TL.eff rfl rfl (eff_call rfl gf_66 rfl (W_impl_latchTimes hr13 ((slRep.old ha2 he10 (Nat.le_refl _)).wide (Nat.le_refl _) (he10).size) ((slRep.old ha4 he10 (Nat.le_refl _)).wide (Nat.le_refl _) (he10).size))) ?_
  rintro _ w14 ⟨v16, v20, rfl, hs17, hs21, hp24, hx15⟩
  have he25 : Ext w w14 := Ext.trans he10 hx15
  have hb8 := Box.ext hb8 hx15
  have hz26 := (hx15).size
  have hbd19 := ownR.blk hs17
  have hbd23 := ownR.blk hs21
  refine TL.yld rfl rfl (yld_move rfl rfl) ?_
  refine TL.yld rfl rfl (yld_extract rfl rfl rfl) ?_
  refine TL.yld rfl rfl (yld_extract rfl rfl rfl) ?_
  refine TL.yld rfl rfl (yld_extract rfl rfl rfl) ?_
  refine TL.yld rfl rfl (yld_assign rfl rfl) ?_
  refine TL.yld rfl rfl (yld_assign rfl rfl) ?_
  refine TL.yld rfl rfl (yld_assign rfl rfl) ?_
  refine TL.done ?_
  refine NX.seq ?_
  refine WC.seq ?_
  refine WC.region ?_
  refine TL.yld rfl rfl (yld_move rfl rfl) ?_
  refine TL.yld rfl rfl (yld_move rfl rfl) ?_
  refine TL.yld rfl rfl (yld_assign rfl rfl) ?_
  refine TL.yld rfl rfl (yld_assign rfl rfl) ?_
  refine TL.done ?_
  refine NX.seq ?_
  refine WC.ret' ?_
  obtain rfl := Option.some.inj hF
  exact NX.end (rs := [.tmp 2, .tmp 3]) (vs := [v16, .int .i64 r12.2.2]) rfl ⟨rfl, rfl, trivial⟩ ⟨_, rfl, _, rfl, ownR.base hs17 (by omega), he25⟩

-- loop.example/g00861/laws.FnBorrowing
def F_laws_FnBorrowing_L1 (r11 : S_LatchSystem) (r38 : (List Int) × Int) (r73 : (List Int) × Int) (r83 : (List Int) × Int) (r93 : (List Int) × Int) (k0 : Int → Option Bool) : Nat → Int → Option Bool
  | 0 => fun _ => none
  | m + 1 => fun i134 => (bif decide (i134 < (r38.1.length : Int)) then (Option.bind (getI r73.1 i134) fun x143 => (Option.bind (getI r93.1 i134) fun x150 => (Option.bind (getI r11.Latches i134) fun x157 => (Option.bind (bif (x143 != (IntKind.wrap IntKind.i64 (x150 - x157.Open))) then (some true) else (Option.bind (getI r83.1 i134) fun x164 => (Option.bind (getI r11.Latches i134) fun x171 => (Option.bind (getI r38.1 i134) fun x178 => (some ((x164 != (IntKind.wrap IntKind.i64 (x171.Close - x178))))))))) fun c164 => (Option.bind (bif c164 then (some true) else (Option.bind (getI r93.1 i134) fun x188 => (Option.bind (getI r38.1 i134) fun x195 => (Option.bind (getI r11.Latches i134) fun x202 => (some ((x188 != (max x195 x202.Open)))))))) fun c188 => (bif c188 then (some false) else (F_laws_FnBorrowing_L1 r11 r38 r73 r83 r93 k0 m (IntKind.wrap IntKind.i64 (i134 + 1))))))))) else (k0 i134))
theorem F_laws_FnBorrowing_L1_z (r11 : S_LatchSystem) (r38 : (List Int) × Int) (r73 : (List Int) × Int) (r83 : (List Int) × Int) (r93 : (List Int) × Int) (k0 : Int → Option Bool) (i134 : Int) : F_laws_FnBorrowing_L1 r11 r38 r73 r83 r93 k0 0 i134 = none := rfl
theorem F_laws_FnBorrowing_L1_s (m : Nat) (r11 : S_LatchSystem) (r38 : (List Int) × Int) (r73 : (List Int) × Int) (r83 : (List Int) × Int) (r93 : (List Int) × Int) (k0 : Int → Option Bool) (i134 : Int) : F_laws_FnBorrowing_L1 r11 r38 r73 r83 r93 k0 (m + 1) i134 = (bif decide (i134 < (r38.1.length : Int)) then (Option.bind (getI r73.1 i134) fun x143 => (Option.bind (getI r93.1 i134) fun x150 => (Option.bind (getI r11.Latches i134) fun x157 => (Option.bind (bif (x143 != (IntKind.wrap IntKind.i64 (x150 - x157.Open))) then (some true) else (Option.bind (getI r83.1 i134) fun x164 => (Option.bind (getI r11.Latches i134) fun x171 => (Option.bind (getI r38.1 i134) fun x178 => (some ((x164 != (IntKind.wrap IntKind.i64 (x171.Close - x178))))))))) fun c164 => (Option.bind (bif c164 then (some true) else (Option.bind (getI r93.1 i134) fun x188 => (Option.bind (getI r38.1 i134) fun x195 => (Option.bind (getI r11.Latches i134) fun x202 => (some ((x188 != (max x195 x202.Open)))))))) fun c188 => (bif c188 then (some false) else (F_laws_FnBorrowing_L1 r11 r38 r73 r83 r93 k0 m (IntKind.wrap IntKind.i64 (i134 + 1))))))))) else (k0 i134)) := rfl

def F_laws_FnBorrowing (n : Nat) (a0_code : List Int) : Option Bool := (Option.bind (F_laws_big n a0_code) fun r3 => (bif r3 then (some true) else (Option.bind (F_spec_DrawLatchSlacks n a0_code) fun r11 => (Option.bind (F_impl_LatchArrivals n r11) fun r38 => (Option.bind (F_spec_LatchArrivals n r11) fun r48 => (Option.bind (bif (r38.2 != r48.2) then (some true) else (Option.bind (F_laws_likeInts n r38.1 r48.1) fun r58 => (some (!r58)))) fun c58 => (bif c58 then (some false) else (Option.bind (F_impl_BorrowedTimes n r11) fun r73 => (Option.bind (F_impl_LatchSlacks n r11) fun r83 => (Option.bind (F_impl_LatchDepartures n r11) fun r93 => (bif (r38.2 != 0) then (some ((((((r73.2 == r38.2)) && ((r83.2 == r38.2)))) && ((r93.2 == r38.2))))) else (bif ((((((((IntKind.wrap IntKind.i64 ((IntKind.wrap IntKind.i64 (r73.2 + r83.2)) + r93.2)) != 0)) || ((((r73.1.length : Int)) != ((r38.1.length : Int)))))) || ((((r83.1.length : Int)) != ((r38.1.length : Int)))))) || ((((r93.1.length : Int)) != ((r38.1.length : Int))))) then (some false) else (F_laws_FnBorrowing_L1 r11 r38 r73 r83 r93 (fun i134 => (some true)) n 0)))))))))))))
set_option maxHeartbeats 4000000 in
theorem W_laws_FnBorrowing {n : Nat} {a0_code : List Int} {r : Bool} {w : World} {v1 : Value} (hF : F_laws_FnBorrowing n a0_code = some r) (ha2 : slRep (cInt .u8) w (Iv 0 w.heap.size) a0_code v1) :
    Calls Try.prog 5 [v1].toArray w (Ret fun u w2 => u = .bool r ∧ Ext w w2) := by
  refine calls_of Try.func5 rfl Try.ntmps5 ?_
  have he0 : Ext w w := Ext.refl w
  unfold F_laws_FnBorrowing at hF
  refine WC.seq ?_
  refine WC.region ?_
  refine TL.yld rfl rfl (yld_assign rfl rfl) ?_
  refine TL.done ?_
  refine NX.seq ?_
  refine WC.seq ?_
  refine WC.seq ?_
  refine WC.region ?_
  refine TL.yld rfl rfl (yld_move rfl rfl) ?_
  obtain ⟨r3, hr4, hF⟩ := bsome hF
  refine TL.eff rfl rfl (eff_call rfl gf_23 rfl (W_laws_big hr4 ((slRep.old ha2 he0 (Nat.le_refl _)).wide (Nat.le_refl _) (he0).size))) ?_
  rintro _ w5 ⟨rfl, hx6⟩
  have he7 : Ext w w5 := Ext.trans he0 hx6
  have hz8 := (hx6).size
  refine TL.done ?_
  refine NX.seq ?_
  refine WC.cond rfl ?_ ?_
  · intro hc9
    replace hF := bif_t hc9 hF
    refine WC.seq ?_
    refine WC.region ?_
    refine TL.yld rfl rfl (yld_assign rfl rfl) ?_
    refine TL.done ?_
    refine NX.seq ?_
    refine WC.ret' ?_
    refine NX.then_r ?_
    obtain rfl := Option.some.inj hF
    exact NX.end (rs := [.tmp 2]) (vs := [.bool true]) rfl ⟨rfl, trivial⟩ ⟨_, rfl, rfl, he7⟩
  · intro hc10
    replace hF := bif_f hc10 hF
    refine WC.skip' ?_
    refine NX.seq ?_
    refine WC.seq ?_
    refine WC.region ?_
    refine TL.yld rfl rfl (yld_move rfl rfl) ?_
    obtain ⟨r11, hr12, hF⟩ := bsome hF
    refine TL.eff rfl rfl (eff_call rfl gf_24 rfl (W_spec_DrawLatchSlacks hr12 ((slRep.old ha2 he7 (Nat.le_refl _)).wide (Nat.le_refl _) (he7).size))) ?_
    rintro _ w13 ⟨v15, v17, rfl, hs16, hs18, hp23, hx14⟩
    have he24 : Ext w w13 := Ext.trans he7 hx14
    have hz25 := (hx14).size
    have hbd20 := ownR.blk hs16
    have hbd22 := ownR.blk hs18
    refine TL.eff rfl rfl (eff_alloc rfl zn_38) ?_
    rintro _ w27 ⟨b26, rfl, hn28⟩
    obtain ⟨hn28e, hn28s, hn28x, hb29⟩ := hn28
    have hb29 : Box w27 b26 [.slice none 0 0, .slice none 0 0] 38 := hb29
    have he31 : Ext w w27 := Ext.trans he24 hn28x
    have hs16 := ownR.ext hs16 hn28x
    have hs18 := ownR.ext hs18 hn28x
    have hz32 := (hn28x).size
    have hlo30 : w.heap.size ≤ b26 := by rw [hn28e]; exact (he24).size
    refine TL.eff rfl rfl (eff_store rfl rfl rfl hb29 cn_38 (allc_cons (slRep.one (ownR.slf hs16 (Nat.le_refl _) (Nat.le_refl _))) (allc_cons (slRep.one (ownR.slf hs18 (Nat.le_refl _) (Nat.le_refl _))) allc_nil)) rfl) ?_
    rintro _ w33 ⟨hu34, hb35⟩
    have he36 : Ext w w33 := Below.trans he31 (Upd.below hu34 (by omega))
    have hs16 := ownR.upd hs16 hu34 (fun g hg => by have := hbd20 g hg; omega)
    have hs18 := ownR.upd hs18 hu34 (fun g hg => by have := hbd22 g hg; omega)
    have hz37 := (hu34).size
    have hb29 : Box w33 b26 [v15, v17] 38 := hb35
    refine TL.done ?_
    refine NX.seq ?_
    refine WC.seq ?_
    refine WC.region ?_
    refine TL.yld rfl rfl (yld_loadN (us := [v15, v17]) rfl ag_38 rfl (Box.cells hb29) cn_38) ?_
    obtain ⟨r38, hr39, hF⟩ := bsome hF
    refine TL.eff rfl rfl (eff_call rfl gf_25 rfl (W_impl_LatchArrivals hr39 (ownR.slf hs16 (Nat.zero_le _) (Nat.le_refl _)) (ownR.slf hs18 (Nat.zero_le _) (Nat.le_refl _)))) ?_
    rintro _ w40 ⟨v42, rfl, hs43, hx41⟩
    have he46 : Ext w w40 := Ext.trans he36 hx41
    have hb29 := Box.ext hb29 hx41
    have hs16 := ownR.ext hs16 hx41
    have hs18 := ownR.ext hs18 hx41
    have hz47 := (hx41).size
    have hbd45 := ownR.blk hs43
    refine TL.yld rfl rfl (yld_move rfl rfl) ?_
    refine TL.yld rfl rfl (yld_extract rfl rfl rfl) ?_
    refine TL.yld rfl rfl (yld_extract rfl rfl rfl) ?_
    refine TL.yld rfl rfl (yld_assign rfl rfl) ?_
    refine TL.yld rfl rfl (yld_assign rfl rfl) ?_
    refine TL.done ?_
    refine NX.seq ?_
    refine WC.seq ?_
    refine WC.region ?_
    refine TL.yld rfl rfl (yld_loadN (us := [v15, v17]) rfl ag_38 rfl (Box.cells hb29) cn_38) ?_
    obtain ⟨r48, hr49, hF⟩ := bsome hF
    refine TL.eff rfl rfl (eff_call rfl gf_26 rfl (W_spec_LatchArrivals hr49 (ownR.slf hs16 (Nat.zero_le _) (Nat.le_refl _)) (ownR.slf hs18 (Nat.zero_le _) (Nat.le_refl _)))) ?_
    rintro _ w50 ⟨v52, rfl, hs53, hx51⟩
    have he56 : Ext w w50 := Ext.trans he46 hx51
    have hb29 := Box.ext hb29 hx51
    have hs16 := ownR.ext hs16 hx51
    have hs18 := ownR.ext hs18 hx51
    have hs43 := ownR.ext hs43 hx51
    have hz57 := (hx51).size
    have hbd55 := ownR.blk hs53
    refine TL.yld rfl rfl (yld_move rfl rfl) ?_
    refine TL.yld rfl rfl (yld_extract rfl rfl rfl) ?_
    refine TL.yld rfl rfl (yld_extract rfl rfl rfl) ?_
    refine TL.yld rfl rfl (yld_assign rfl rfl) ?_
    refine TL.yld rfl rfl (yld_assign rfl rfl) ?_
    refine TL.done ?_
    refine NX.seq ?_
    refine WC.seq ?_
    refine WC.seq ?_
    refine WC.region ?_
    refine TL.yld rfl rfl (yld_move rfl rfl) ?_
    refine TL.yld rfl rfl (yld_move rfl rfl) ?_
    refine TL.yld rfl rfl (yld_neq rfl rfl rfl) ?_
    refine TL.yld rfl rfl (yld_move rfl rfl) ?_
    obtain ⟨c58, hb59, hF⟩ := bsome hF
    refine TL.cut 5 [(3, .pointer (some ⟨b26, 0, none⟩)), (4, v42), (5, .int .i64 r38.2), (37, .bool c58)] (fun w' => Ext w50 w') ?_ ?_
    · rcases Bool.eq_false_or_eq_true ((r38.2 != r48.2)) with hg60 | hg60
      ·
        rw [hg60] at hb59; simp only [cond_true, cond_false] at hb59
        refine TL.gnu (j := 3) (t := 32) rfl rfl rfl hg60 rfl ?_
        refine TL.gnu (j := 3) (t := 32) rfl rfl rfl hg60 rfl ?_
        refine TL.gnu (j := 3) (t := 32) rfl rfl rfl hg60 rfl ?_
        refine TL.gnu (j := 3) (t := 32) rfl rfl rfl hg60 rfl ?_
        obtain rfl := Option.some.inj hb59
        refine TL.yld rfl rfl (yld_pick_t rfl rfl hg60 rfl) ?_
        exact TL.nil fun a h => ⟨h.weaken ⟨rfl, rfl, rfl, rfl, trivial⟩, Ext.refl _⟩
      ·
        rw [hg60] at hb59; simp only [cond_true, cond_false] at hb59
        replace hF := hb59
        refine TL.gy (j := 3) (t := 32) rfl rfl rfl hg60 rfl (yld_move rfl rfl) ?_
        refine TL.gy (j := 3) (t := 32) rfl rfl rfl hg60 rfl (yld_move rfl rfl) ?_
        obtain ⟨r61, hr62, hF⟩ := bsome hF
        refine TL.ge (j := 3) (t := 32) rfl rfl rfl hg60 rfl (eff_call rfl gf_27 rfl (W_laws_likeInts hr62 (ownR.slf hs43 (Nat.zero_le _) (Nat.le_refl _)) (ownR.slf hs53 (Nat.zero_le _) (Nat.le_refl _)))) ?_
        rintro _ w63 ⟨rfl, hx64⟩
        have he65 : Ext w w63 := Ext.trans he56 hx64
        have hb29 := Box.ext hb29 hx64
        have hs16 := ownR.ext hs16 hx64
        have hs18 := ownR.ext hs18 hx64
        have hs43 := ownR.ext hs43 hx64
        have hs53 := ownR.ext hs53 hx64
        have hz66 := (hx64).size
        refine TL.gy (j := 3) (t := 32) rfl rfl rfl hg60 rfl (yld_not rfl rfl) ?_
        obtain rfl := Option.some.inj hF
        refine TL.yld rfl rfl (yld_pick_f rfl rfl hg60 rfl) ?_
        exact TL.nil fun a h => ⟨h.weaken ⟨rfl, rfl, rfl, rfl, trivial⟩, hx64⟩
    intro w67 hx68
    have he69 : Ext w w67 := Ext.trans he56 hx68
    have hb29 := Box.ext hb29 hx68
    have hs16 := ownR.ext hs16 hx68
    have hs18 := ownR.ext hs18 hx68
    have hs43 := ownR.ext hs43 hx68
    have hs53 := ownR.ext hs53 hx68
    have hz70 := (hx68).size
    refine TL.done ?_
    refine NX.seq ?_
    refine WC.cond rfl ?_ ?_
    · intro hc71
      replace hF := bif_t hc71 hF
      refine WC.seq ?_
      refine WC.region ?_
      refine TL.yld rfl rfl (yld_assign rfl rfl) ?_
      refine TL.done ?_
      refine NX.seq ?_
      refine WC.ret' ?_
      refine NX.then_r ?_
      obtain rfl := Option.some.inj hF
      exact NX.end (rs := [.tmp 2]) (vs := [.bool false]) rfl ⟨rfl, trivial⟩ ⟨_, rfl, rfl, he69⟩
    · intro hc72
      replace hF := bif_f hc72 hF
      refine WC.skip' ?_
      refine NX.seq ?_
      refine WC.seq ?_
      refine WC.region ?_
      refine TL.yld rfl rfl (yld_loadN (us := [v15, v17]) rfl ag_38 rfl (Box.cells hb29) cn_38) ?_
      obtain ⟨r73, hr74, hF⟩ := bsome hF
      refine TL.eff rfl rfl (eff_call rfl gf_28 rfl (W_impl_BorrowedTimes hr74 (ownR.slf hs16 (Nat.zero_le _) (Nat.le_refl _)) (ownR.slf hs18 (Nat.zero_le _) (Nat.le_refl _)))) ?_
      rintro _ w75 ⟨v77, rfl, hs78, hx76⟩
      have he81 : Ext w w75 := Ext.trans he69 hx76
      have hb29 := Box.ext hb29 hx76
      have hs16 := ownR.ext hs16 hx76
      have hs18 := ownR.ext hs18 hx76
      have hs43 := ownR.ext hs43 hx76
      have hs53 := ownR.ext hs53 hx76
      have hz82 := (hx76).size
      have hbd80 := ownR.blk hs78
      refine TL.yld rfl rfl (yld_move rfl rfl) ?_
      refine TL.yld rfl rfl (yld_extract rfl rfl rfl) ?_
      refine TL.yld rfl rfl (yld_extract rfl rfl rfl) ?_
      refine TL.yld rfl rfl (yld_assign rfl rfl) ?_
      refine TL.yld rfl rfl (yld_assign rfl rfl) ?_
      refine TL.done ?_
      refine NX.seq ?_
      refine WC.seq ?_
      refine WC.region ?_
      refine TL.yld rfl rfl (yld_loadN (us := [v15, v17]) rfl ag_38 rfl (Box.cells hb29) cn_38) ?_
      obtain ⟨r83, hr84, hF⟩ := bsome hF
      refine TL.eff rfl rfl (eff_call rfl gf_29 rfl (W_impl_LatchSlacks hr84 (ownR.slf hs16 (Nat.zero_le _) (Nat.le_refl _)) (ownR.slf hs18 (Nat.zero_le _) (Nat.le_refl _)))) ?_
      rintro _ w85 ⟨v87, rfl, hs88, hx86⟩
      have he91 : Ext w w85 := Ext.trans he81 hx86
      have hb29 := Box.ext hb29 hx86
      have hs16 := ownR.ext hs16 hx86
      have hs18 := ownR.ext hs18 hx86
      have hs43 := ownR.ext hs43 hx86
      have hs53 := ownR.ext hs53 hx86
      have hs78 := ownR.ext hs78 hx86
      have hz92 := (hx86).size
      have hbd90 := ownR.blk hs88
      refine TL.yld rfl rfl (yld_move rfl rfl) ?_
      refine TL.yld rfl rfl (yld_extract rfl rfl rfl) ?_
      refine TL.yld rfl rfl (yld_extract rfl rfl rfl) ?_
      refine TL.yld rfl rfl (yld_assign rfl rfl) ?_
      refine TL.yld rfl rfl (yld_assign rfl rfl) ?_
      refine TL.done ?_
      refine NX.seq ?_
      refine WC.seq ?_
      refine WC.region ?_
      refine TL.yld rfl rfl (yld_loadN (us := [v15, v17]) rfl ag_38 rfl (Box.cells hb29) cn_38) ?_
      obtain ⟨r93, hr94, hF⟩ := bsome hF
      refine TL.eff rfl rfl (eff_call rfl gf_30 rfl (W_impl_LatchDepartures hr94 (ownR.slf hs16 (Nat.zero_le _) (Nat.le_refl _)) (ownR.slf hs18 (Nat.zero_le _) (Nat.le_refl _)))) ?_
      rintro _ w95 ⟨v97, rfl, hs98, hx96⟩
      have he101 : Ext w w95 := Ext.trans he91 hx96
      have hb29 := Box.ext hb29 hx96
      have hs16 := ownR.ext hs16 hx96
      have hs18 := ownR.ext hs18 hx96
      have hs43 := ownR.ext hs43 hx96
      have hs53 := ownR.ext hs53 hx96
      have hs78 := ownR.ext hs78 hx96
      have hs88 := ownR.ext hs88 hx96
      have hz102 := (hx96).size
      have hbd100 := ownR.blk hs98
      refine TL.yld rfl rfl (yld_move rfl rfl) ?_
      refine TL.yld rfl rfl (yld_extract rfl rfl rfl) ?_
      refine TL.yld rfl rfl (yld_extract rfl rfl rfl) ?_
      refine TL.yld rfl rfl (yld_assign rfl rfl) ?_
      refine TL.yld rfl rfl (yld_assign rfl rfl) ?_
      refine TL.done ?_
      refine NX.seq ?_
      refine WC.seq ?_
      refine WC.seq ?_
      refine WC.region ?_
      refine TL.yld rfl rfl (yld_move rfl rfl) ?_
      refine TL.yld rfl rfl (yld_neq rfl rfl rfl) ?_
      refine TL.done ?_
      refine NX.seq ?_
      refine WC.cond rfl ?_ ?_
      · intro hc103
        replace hF := bif_t hc103 hF
        refine WC.seq ?_
        refine WC.region ?_
        refine TL.yld rfl rfl (yld_move rfl rfl) ?_
        refine TL.yld rfl rfl (yld_move rfl rfl) ?_
        refine TL.yld rfl rfl (yld_eql rfl rfl rfl) ?_
        refine TL.yld rfl rfl (yld_move rfl rfl) ?_
        refine TL.cut 4 [(5, .int .i64 r38.2), (13, .int .i64 r93.2), (62, .bool ((((r73.2 == r38.2)) && ((r83.2 == r38.2)))))] (fun w' => Ext w95 w') ?_ ?_
        · rcases Bool.eq_false_or_eq_true ((r73.2 == r38.2)) with hg104 | hg104
          ·
            refine TL.gy (j := 3) (t := 58) rfl rfl rfl hg104 rfl (yld_move rfl rfl) ?_
            refine TL.gy (j := 3) (t := 58) rfl rfl rfl hg104 rfl (yld_move rfl rfl) ?_
            refine TL.gy (j := 3) (t := 58) rfl rfl rfl hg104 rfl (yld_eql rfl rfl rfl) ?_
            refine TL.yld rfl rfl (yld_and_t rfl rfl hg104 rfl) ?_
            exact TL.nil fun a h => ⟨h.weaken ⟨rfl, rfl, rfl, trivial⟩, Ext.refl _⟩
          ·
            refine TL.gnu (j := 3) (t := 58) rfl rfl rfl hg104 rfl ?_
            refine TL.gnu (j := 3) (t := 58) rfl rfl rfl hg104 rfl ?_
            refine TL.gnu (j := 3) (t := 58) rfl rfl rfl hg104 rfl ?_
            refine TL.yld rfl rfl (yld_and_f (b2 := (r83.2 == r38.2)) rfl rfl hg104 rfl) ?_
            exact TL.nil fun a h => ⟨h.weaken ⟨rfl, rfl, rfl, trivial⟩, Ext.refl _⟩
        intro w105 hx106
        have he107 : Ext w w105 := Ext.trans he101 hx106
        have hb29 := Box.ext hb29 hx106
        have hs16 := ownR.ext hs16 hx106
        have hs18 := ownR.ext hs18 hx106
        have hs43 := ownR.ext hs43 hx106
        have hs53 := ownR.ext hs53 hx106
        have hs78 := ownR.ext hs78 hx106
        have hs88 := ownR.ext hs88 hx106
        have hs98 := ownR.ext hs98 hx106
        have hz108 := (hx106).size
        refine TL.yld rfl rfl (yld_move rfl rfl) ?_
        refine TL.cut 4 [(67, .bool ((((((r73.2 == r38.2)) && ((r83.2 == r38.2)))) && ((r93.2 == r38.2)))))] (fun w' => Ext w105 w') ?_ ?_
        · rcases Bool.eq_false_or_eq_true ((((r73.2 == r38.2)) && ((r83.2 == r38.2)))) with hg109 | hg109
          ·
            refine TL.gy (j := 8) (t := 63) rfl rfl rfl hg109 rfl (yld_move rfl rfl) ?_
            refine TL.gy (j := 8) (t := 63) rfl rfl rfl hg109 rfl (yld_move rfl rfl) ?_
            refine TL.gy (j := 8) (t := 63) rfl rfl rfl hg109 rfl (yld_eql rfl rfl rfl) ?_
            refine TL.yld rfl rfl (yld_and_t rfl rfl hg109 rfl) ?_
            exact TL.nil fun a h => ⟨h.weaken ⟨rfl, trivial⟩, Ext.refl _⟩
          ·
            refine TL.gnu (j := 8) (t := 63) rfl rfl rfl hg109 rfl ?_
            refine TL.gnu (j := 8) (t := 63) rfl rfl rfl hg109 rfl ?_
            refine TL.gnu (j := 8) (t := 63) rfl rfl rfl hg109 rfl ?_
            refine TL.yld rfl rfl (yld_and_f (b2 := (r93.2 == r38.2)) rfl rfl hg109 rfl) ?_
            exact TL.nil fun a h => ⟨h.weaken ⟨rfl, trivial⟩, Ext.refl _⟩
        intro w110 hx111
        have he112 : Ext w w110 := Ext.trans he107 hx111
        have hb29 := Box.ext hb29 hx111
        have hs16 := ownR.ext hs16 hx111
        have hs18 := ownR.ext hs18 hx111
        have hs43 := ownR.ext hs43 hx111
        have hs53 := ownR.ext hs53 hx111
        have hs78 := ownR.ext hs78 hx111
        have hs88 := ownR.ext hs88 hx111
        have hs98 := ownR.ext hs98 hx111
        have hz113 := (hx111).size
        refine TL.yld rfl rfl (yld_assign rfl rfl) ?_
        refine TL.done ?_
        refine NX.seq ?_
        refine WC.ret' ?_
        refine NX.then_r ?_
        obtain rfl := Option.some.inj hF
        exact NX.end (rs := [.tmp 2]) (vs := [.bool ((((((r73.2 == r38.2)) && ((r83.2 == r38.2)))) && ((r93.2 == r38.2))))]) rfl ⟨rfl, trivial⟩ ⟨_, rfl, rfl, he112⟩
      · intro hc114
        replace hF := bif_f hc114 hF
        refine WC.skip' ?_
        refine NX.seq ?_
        refine WC.seq ?_
        refine WC.seq ?_
        refine WC.region ?_
        refine TL.yld rfl rfl (yld_move rfl rfl) ?_
        refine TL.yld rfl rfl (yld_move rfl rfl) ?_
        refine TL.yld rfl rfl (yld_add rfl rfl rfl) ?_
        refine TL.yld rfl rfl (yld_move rfl rfl) ?_
        refine TL.yld rfl rfl (yld_add rfl rfl rfl) ?_
        refine TL.yld rfl rfl (yld_neq rfl rfl rfl) ?_
        refine TL.yld rfl rfl (yld_move rfl rfl) ?_
        refine TL.cut 6 [(3, .pointer (some ⟨b26, 0, none⟩)), (4, v42), (8, v77), (10, v87), (12, v97), (80, .bool (((((IntKind.wrap IntKind.i64 ((IntKind.wrap IntKind.i64 (r73.2 + r83.2)) + r93.2)) != 0)) || ((((r73.1.length : Int)) != ((r38.1.length : Int)))))))] (fun w' => Ext w95 w') ?_ ?_
        · rcases Bool.eq_false_or_eq_true (((IntKind.wrap IntKind.i64 ((IntKind.wrap IntKind.i64 (r73.2 + r83.2)) + r93.2)) != 0)) with hg115 | hg115
          ·
            refine TL.gnu (j := 6) (t := 74) rfl rfl rfl hg115 rfl ?_
            refine TL.gnu (j := 6) (t := 74) rfl rfl rfl hg115 rfl ?_
            refine TL.gnu (j := 6) (t := 74) rfl rfl rfl hg115 rfl ?_
            refine TL.gnu (j := 6) (t := 74) rfl rfl rfl hg115 rfl ?_
            refine TL.gnu (j := 6) (t := 74) rfl rfl rfl hg115 rfl ?_
            refine TL.yld rfl rfl (yld_or_t (b2 := (((r73.1.length : Int)) != ((r38.1.length : Int)))) rfl rfl hg115 rfl) ?_
            exact TL.nil fun a h => ⟨h.weaken ⟨rfl, rfl, rfl, rfl, rfl, rfl, trivial⟩, Ext.refl _⟩
          ·
            refine TL.gy (j := 6) (t := 74) rfl rfl rfl hg115 rfl (yld_move rfl rfl) ?_
            refine TL.gy (j := 6) (t := 74) rfl rfl rfl hg115 rfl (yld_len_own (c := (cInt .i64)) rfl Try.underlying45 rfl hs78) ?_
            refine TL.gy (j := 6) (t := 74) rfl rfl rfl hg115 rfl (yld_move rfl rfl) ?_
            refine TL.gy (j := 6) (t := 74) rfl rfl rfl hg115 rfl (yld_len_own (c := (cInt .i64)) rfl Try.underlying45 rfl hs43) ?_
            refine TL.gy (j := 6) (t := 74) rfl rfl rfl hg115 rfl (yld_neq rfl rfl rfl) ?_
            refine TL.yld rfl rfl (yld_or_f rfl rfl hg115 rfl) ?_
            exact TL.nil fun a h => ⟨h.weaken ⟨rfl, rfl, rfl, rfl, rfl, rfl, trivial⟩, Ext.refl _⟩
        intro w116 hx117
        have he118 : Ext w w116 := Ext.trans he101 hx117
        have hb29 := Box.ext hb29 hx117
        have hs16 := ownR.ext hs16 hx117
        have hs18 := ownR.ext hs18 hx117
        have hs43 := ownR.ext hs43 hx117
        have hs53 := ownR.ext hs53 hx117
        have hs78 := ownR.ext hs78 hx117
        have hs88 := ownR.ext hs88 hx117
        have hs98 := ownR.ext hs98 hx117
        have hz119 := (hx117).size
        refine TL.yld rfl rfl (yld_move rfl rfl) ?_
        refine TL.cut 6 [(3, .pointer (some ⟨b26, 0, none⟩)), (4, v42), (8, v77), (10, v87), (12, v97), (87, .bool (((((((IntKind.wrap IntKind.i64 ((IntKind.wrap IntKind.i64 (r73.2 + r83.2)) + r93.2)) != 0)) || ((((r73.1.length : Int)) != ((r38.1.length : Int)))))) || ((((r83.1.length : Int)) != ((r38.1.length : Int)))))))] (fun w' => Ext w116 w') ?_ ?_
        · rcases Bool.eq_false_or_eq_true (((((IntKind.wrap IntKind.i64 ((IntKind.wrap IntKind.i64 (r73.2 + r83.2)) + r93.2)) != 0)) || ((((r73.1.length : Int)) != ((r38.1.length : Int)))))) with hg120 | hg120
          ·
            refine TL.gnu (j := 13) (t := 81) rfl rfl rfl hg120 rfl ?_
            refine TL.gnu (j := 13) (t := 81) rfl rfl rfl hg120 rfl ?_
            refine TL.gnu (j := 13) (t := 81) rfl rfl rfl hg120 rfl ?_
            refine TL.gnu (j := 13) (t := 81) rfl rfl rfl hg120 rfl ?_
            refine TL.gnu (j := 13) (t := 81) rfl rfl rfl hg120 rfl ?_
            refine TL.yld rfl rfl (yld_or_t (b2 := (((r83.1.length : Int)) != ((r38.1.length : Int)))) rfl rfl hg120 rfl) ?_
            exact TL.nil fun a h => ⟨h.weaken ⟨rfl, rfl, rfl, rfl, rfl, rfl, trivial⟩, Ext.refl _⟩
          ·
            refine TL.gy (j := 13) (t := 81) rfl rfl rfl hg120 rfl (yld_move rfl rfl) ?_
            refine TL.gy (j := 13) (t := 81) rfl rfl rfl hg120 rfl (yld_len_own (c := (cInt .i64)) rfl Try.underlying45 rfl hs88) ?_
            refine TL.gy (j := 13) (t := 81) rfl rfl rfl hg120 rfl (yld_move rfl rfl) ?_
            refine TL.gy (j := 13) (t := 81) rfl rfl rfl hg120 rfl (yld_len_own (c := (cInt .i64)) rfl Try.underlying45 rfl hs43) ?_
            refine TL.gy (j := 13) (t := 81) rfl rfl rfl hg120 rfl (yld_neq rfl rfl rfl) ?_
            refine TL.yld rfl rfl (yld_or_f rfl rfl hg120 rfl) ?_
            exact TL.nil fun a h => ⟨h.weaken ⟨rfl, rfl, rfl, rfl, rfl, rfl, trivial⟩, Ext.refl _⟩
        intro w121 hx122
        have he123 : Ext w w121 := Ext.trans he118 hx122
        have hb29 := Box.ext hb29 hx122
        have hs16 := ownR.ext hs16 hx122
        have hs18 := ownR.ext hs18 hx122
        have hs43 := ownR.ext hs43 hx122
        have hs53 := ownR.ext hs53 hx122
        have hs78 := ownR.ext hs78 hx122
        have hs88 := ownR.ext hs88 hx122
        have hs98 := ownR.ext hs98 hx122
        have hz124 := (hx122).size
        refine TL.yld rfl rfl (yld_move rfl rfl) ?_
        refine TL.cut 6 [(3, .pointer (some ⟨b26, 0, none⟩)), (4, v42), (8, v77), (10, v87), (12, v97), (94, .bool (((((((((IntKind.wrap IntKind.i64 ((IntKind.wrap IntKind.i64 (r73.2 + r83.2)) + r93.2)) != 0)) || ((((r73.1.length : Int)) != ((r38.1.length : Int)))))) || ((((r83.1.length : Int)) != ((r38.1.length : Int)))))) || ((((r93.1.length : Int)) != ((r38.1.length : Int)))))))] (fun w' => Ext w121 w') ?_ ?_
        · rcases Bool.eq_false_or_eq_true (((((((IntKind.wrap IntKind.i64 ((IntKind.wrap IntKind.i64 (r73.2 + r83.2)) + r93.2)) != 0)) || ((((r73.1.length : Int)) != ((r38.1.length : Int)))))) || ((((r83.1.length : Int)) != ((r38.1.length : Int)))))) with hg125 | hg125
          ·
            refine TL.gnu (j := 20) (t := 88) rfl rfl rfl hg125 rfl ?_
            refine TL.gnu (j := 20) (t := 88) rfl rfl rfl hg125 rfl ?_
            refine TL.gnu (j := 20) (t := 88) rfl rfl rfl hg125 rfl ?_
            refine TL.gnu (j := 20) (t := 88) rfl rfl rfl hg125 rfl ?_
            refine TL.gnu (j := 20) (t := 88) rfl rfl rfl hg125 rfl ?_
            refine TL.yld rfl rfl (yld_or_t (b2 := (((r93.1.length : Int)) != ((r38.1.length : Int)))) rfl rfl hg125 rfl) ?_
            exact TL.nil fun a h => ⟨h.weaken ⟨rfl, rfl, rfl, rfl, rfl, rfl, trivial⟩, Ext.refl _⟩
          ·
            refine TL.gy (j := 20) (t := 88) rfl rfl rfl hg125 rfl (yld_move rfl rfl) ?_
            refine TL.gy (j := 20) (t := 88) rfl rfl rfl hg125 rfl (yld_len_own (c := (cInt .i64)) rfl Try.underlying45 rfl hs98) ?_
            refine TL.gy (j := 20) (t := 88) rfl rfl rfl hg125 rfl (yld_move rfl rfl) ?_
            refine TL.gy (j := 20) (t := 88) rfl rfl rfl hg125 rfl (yld_len_own (c := (cInt .i64)) rfl Try.underlying45 rfl hs43) ?_
            refine TL.gy (j := 20) (t := 88) rfl rfl rfl hg125 rfl (yld_neq rfl rfl rfl) ?_
            refine TL.yld rfl rfl (yld_or_f rfl rfl hg125 rfl) ?_
            exact TL.nil fun a h => ⟨h.weaken ⟨rfl, rfl, rfl, rfl, rfl, rfl, trivial⟩, Ext.refl _⟩
        intro w126 hx127
        have he128 : Ext w w126 := Ext.trans he123 hx127
        have hb29 := Box.ext hb29 hx127
        have hs16 := ownR.ext hs16 hx127
        have hs18 := ownR.ext hs18 hx127
        have hs43 := ownR.ext hs43 hx127
        have hs53 := ownR.ext hs53 hx127
        have hs78 := ownR.ext hs78 hx127
        have hs88 := ownR.ext hs88 hx127
        have hs98 := ownR.ext hs98 hx127
        have hz129 := (hx127).size
        refine TL.done ?_
        refine NX.seq ?_
        refine WC.cond rfl ?_ ?_
        · intro hc130
          replace hF := bif_t hc130 hF
          refine WC.seq ?_
          refine WC.region ?_
          refine TL.yld rfl rfl (yld_assign rfl rfl) ?_
          refine TL.done ?_
          refine NX.seq ?_
          refine WC.ret' ?_
          refine NX.then_r ?_
          obtain rfl := Option.some.inj hF
          exact NX.end (rs := [.tmp 2]) (vs := [.bool false]) rfl ⟨rfl, trivial⟩ ⟨_, rfl, rfl, he128⟩
        · intro hc131
          replace hF := bif_f hc131 hF
          refine WC.skip' ?_
          refine NX.seq ?_
          refine WC.seq ?_
          refine WC.seq ?_
          refine WC.region ?_
          refine TL.yld rfl rfl (yld_assign rfl rfl) ?_
          refine TL.done ?_
          refine NX.seq ?_
          refine WC.block ?_
          refine WC.loop (fun m142 a wl => ∃ (i134 : Int), Kn 153 [(3, .pointer (some ⟨b26, 0, none⟩)), (4, v42), (8, v77), (10, v87), (12, v97), (14, .int .i64 i134)] a ∧ Ext w wl ∧ w126.heap.size ≤ wl.heap.size ∧ Box wl b26 [v15, v17] 38 ∧ ownR (cInt .i64) wl (w33.heap.size) (Iv 0 0) 2 r38.1 v42 ∧ ownR (cInt .i64) wl (w67.heap.size) (Iv 0 0) 2 r73.1 v77 ∧ ownR (cInt .i64) wl (w75.heap.size) (Iv 0 0) 2 r83.1 v87 ∧ ownR (cInt .i64) wl (w85.heap.size) (Iv 0 0) 2 r93.1 v97 ∧ ownR C_Latch wl (w5.heap.size) (Iv 0 0) 50 r11.Latches v15 ∧ ownR C_LatchLink wl (w5.heap.size) (Iv 0 0) 77 r11.Links v17 ∧ F_laws_FnBorrowing_L1 r11 r38 r73 r83 r93 (fun i134 => (some true)) m142 i134 = some r) n ?_ ?_
          · intro a hK; exact ⟨0, hK.weaken ⟨rfl, rfl, rfl, rfl, rfl, rfl, trivial⟩, he128, Nat.le_refl _, hb29, hs43, hs78, hs88, hs98, hs16, hs18, hF⟩
          · rintro m142 a w132 ⟨i134, hK, he133, hz143, hb135, hs136, hs137, hs138, hs139, hs140, hs141, hF⟩
            revert hK; revert a; refine (?_ : WC _ _ _ _ _ _)
            cases m142 with
            | zero => rw [F_laws_FnBorrowing_L1_z] at hF; cases hF
            | succ m142 =>
              rw [F_laws_FnBorrowing_L1_s] at hF
              refine WC.seq ?_
              refine WC.seq ?_
              refine WC.region ?_
              refine TL.yld rfl rfl (yld_move rfl rfl) ?_
              refine TL.yld rfl rfl (yld_move rfl rfl) ?_
              refine TL.yld rfl rfl (yld_len_own (c := (cInt .i64)) rfl Try.underlying45 rfl hs136) ?_
              refine TL.yld rfl rfl (yld_lss rfl rfl rfl) ?_
              refine TL.done ?_
              refine NX.seq ?_
              refine WC.cond rfl ?_ ?_
              · intro hc144
                replace hF := bif_t hc144 hF
                refine WC.skip' ?_
                refine NX.seq ?_
                refine WC.seq ?_
                refine WC.block ?_
                refine WC.seq ?_
                refine WC.quiet Try.hm (by kernel_rfl) ?_
                refine QL.yld rfl rfl (Yld.qui (yld_move rfl rfl)) ?_
                refine QL.yld rfl rfl (Yld.qui (yld_move rfl rfl)) ?_
                obtain ⟨x145, hy146, hF⟩ := bsome hF
                refine QL.ye rfl rfl (ye_index_own (c := (cInt .i64)) rfl Try.underlying45 cn_2 rfl rfl hs137 hy146) ?_
                rintro _ ⟨g147, us149, rfl, hg148, hr150, hcl151⟩
                have hr150r := hr150
                obtain rfl := hr150
                refine QL.yld rfl rfl (Yld.qui (yld_load1 0 rfl ag_2 rfl hcl151 rfl rfl)) ?_
                refine QL.yld rfl rfl (Yld.qui (yld_move rfl rfl)) ?_
                refine QL.yld rfl rfl (Yld.qui (yld_move rfl rfl)) ?_
                obtain ⟨x152, hy153, hF⟩ := bsome hF
                refine QL.ye rfl rfl (ye_index_own (c := (cInt .i64)) rfl Try.underlying45 cn_2 rfl rfl hs139 hy153) ?_
                rintro _ ⟨g154, us156, rfl, hg155, hr157, hcl158⟩
                have hr157r := hr157
                obtain rfl := hr157
                refine QL.yld rfl rfl (Yld.qui (yld_load1 0 rfl ag_2 rfl hcl158 rfl rfl)) ?_
                refine QL.yld rfl rfl (Yld.qui (yld_fieldAddr rfl fo_38_0 rfl)) ?_
                refine QL.yld rfl rfl (Yld.qui (yld_load1 0 rfl ag_35 rfl (Box.cells hb135) rfl rfl)) ?_
                refine QL.yld rfl rfl (Yld.qui (yld_move rfl rfl)) ?_
                obtain ⟨x159, hy160, hF⟩ := bsome hF
                refine QL.ye rfl rfl (ye_index_own (c := C_Latch) rfl Try.underlying35 cn_50 rfl rfl hs140 hy160) ?_
                rintro _ ⟨g161, us163, rfl, hg162, hr164, hcl165⟩
                have hr164r := hr164
                obtain rfl := C_Latch_open hr164
                refine QL.yld rfl rfl (Yld.qui (yld_fieldAddr rfl fo_50_0 rfl)) ?_
                refine QL.yld rfl rfl (Yld.qui (yld_load1 0 rfl ag_2 rfl hcl165 rfl rfl)) ?_
                refine QL.yld rfl rfl (Yld.qui (yld_sub rfl rfl rfl)) ?_
                refine QL.yld rfl rfl (Yld.qui (yld_neq rfl rfl rfl)) ?_
                refine QL.yld rfl rfl (Yld.qui (yld_move rfl rfl)) ?_
                obtain ⟨c166, hb167, hF⟩ := bsome hF
                refine QL.cut 17 [(3, .pointer (some ⟨b26, 0, none⟩)), (4, v42), (8, v77), (10, v87), (12, v97), (14, .int .i64 i134), (134, .bool c166)] ?_ ?_
                · rcases Bool.eq_false_or_eq_true ((x145 != (IntKind.wrap IntKind.i64 (x152 - x159.Open)))) with hg168 | hg168
                  ·
                    rw [hg168] at hb167; simp only [cond_true, cond_false] at hb167
                    refine QL.gnu (j := 16) (t := 117) rfl rfl rfl hg168 rfl ?_
                    refine QL.gnu (j := 16) (t := 117) rfl rfl rfl hg168 rfl ?_
                    refine QL.gnu (j := 16) (t := 117) rfl rfl rfl hg168 rfl ?_
                    refine QL.gnu (j := 16) (t := 117) rfl rfl rfl hg168 rfl ?_
                    refine QL.gnu (j := 16) (t := 117) rfl rfl rfl hg168 rfl ?_
                    refine QL.gnu (j := 16) (t := 117) rfl rfl rfl hg168 rfl ?_
                    refine QL.gnu (j := 16) (t := 117) rfl rfl rfl hg168 rfl ?_
                    refine QL.gnu (j := 16) (t := 117) rfl rfl rfl hg168 rfl ?_
                    refine QL.gnu (j := 16) (t := 117) rfl rfl rfl hg168 rfl ?_
                    refine QL.gnu (j := 16) (t := 117) rfl rfl rfl hg168 rfl ?_
                    refine QL.gnu (j := 16) (t := 117) rfl rfl rfl hg168 rfl ?_
                    refine QL.gnu (j := 16) (t := 117) rfl rfl rfl hg168 rfl ?_
                    refine QL.gnu (j := 16) (t := 117) rfl rfl rfl hg168 rfl ?_
                    refine QL.gnu (j := 16) (t := 117) rfl rfl rfl hg168 rfl ?_
                    refine QL.gnu (j := 16) (t := 117) rfl rfl rfl hg168 rfl ?_
                    refine QL.gnu (j := 16) (t := 117) rfl rfl rfl hg168 rfl ?_
                    obtain rfl := Option.some.inj hb167
                    refine QL.yld rfl rfl (Yld.qui (yld_pick_t rfl rfl hg168 rfl)) ?_
                    exact QL.nil fun a h => h.weaken ⟨rfl, rfl, rfl, rfl, rfl, rfl, rfl, trivial⟩
                  ·
                    rw [hg168] at hb167; simp only [cond_true, cond_false] at hb167
                    replace hF := hb167
                    refine QL.gy (j := 16) (t := 117) rfl rfl rfl hg168 rfl (Yld.qui (yld_move rfl rfl)) ?_
                    refine QL.gy (j := 16) (t := 117) rfl rfl rfl hg168 rfl (Yld.qui (yld_move rfl rfl)) ?_
                    obtain ⟨x169, hy170, hF⟩ := bsome hF
                    refine QL.yeg (j := 16) (t := 117) rfl rfl rfl hg168 rfl (ye_index_own (c := (cInt .i64)) rfl Try.underlying45 cn_2 rfl rfl hs138 hy170) ?_
                    rintro _ ⟨g171, us173, rfl, hg172, hr174, hcl175⟩
                    have hr174r := hr174
                    obtain rfl := hr174
                    refine QL.gy (j := 16) (t := 117) rfl rfl rfl hg168 rfl (Yld.qui (yld_load1 0 rfl ag_2 rfl hcl175 rfl rfl)) ?_
                    refine QL.gy (j := 16) (t := 117) rfl rfl rfl hg168 rfl (Yld.qui (yld_fieldAddr rfl fo_38_0 rfl)) ?_
                    refine QL.gy (j := 16) (t := 117) rfl rfl rfl hg168 rfl (Yld.qui (yld_load1 0 rfl ag_35 rfl (Box.cells hb135) rfl rfl)) ?_
                    refine QL.gy (j := 16) (t := 117) rfl rfl rfl hg168 rfl (Yld.qui (yld_move rfl rfl)) ?_
                    obtain ⟨x176, hy177, hF⟩ := bsome hF
                    refine QL.yeg (j := 16) (t := 117) rfl rfl rfl hg168 rfl (ye_index_own (c := C_Latch) rfl Try.underlying35 cn_50 rfl rfl hs140 hy177) ?_
                    rintro _ ⟨g178, us180, rfl, hg179, hr181, hcl182⟩
                    have hr181r := hr181
                    obtain rfl := C_Latch_open hr181
                    refine QL.gy (j := 16) (t := 117) rfl rfl rfl hg168 rfl (Yld.qui (yld_fieldAddr rfl fo_50_1 rfl)) ?_
                    refine QL.gy (j := 16) (t := 117) rfl rfl rfl hg168 rfl (Yld.qui (yld_load1 1 rfl ag_2 rfl hcl182 rfl rfl)) ?_
                    refine QL.gy (j := 16) (t := 117) rfl rfl rfl hg168 rfl (Yld.qui (yld_move rfl rfl)) ?_
                    refine QL.gy (j := 16) (t := 117) rfl rfl rfl hg168 rfl (Yld.qui (yld_move rfl rfl)) ?_
                    obtain ⟨x183, hy184, hF⟩ := bsome hF
                    refine QL.yeg (j := 16) (t := 117) rfl rfl rfl hg168 rfl (ye_index_own (c := (cInt .i64)) rfl Try.underlying45 cn_2 rfl rfl hs136 hy184) ?_
                    rintro _ ⟨g185, us187, rfl, hg186, hr188, hcl189⟩
                    have hr188r := hr188
                    obtain rfl := hr188
                    refine QL.gy (j := 16) (t := 117) rfl rfl rfl hg168 rfl (Yld.qui (yld_load1 0 rfl ag_2 rfl hcl189 rfl rfl)) ?_
                    refine QL.gy (j := 16) (t := 117) rfl rfl rfl hg168 rfl (Yld.qui (yld_sub rfl rfl rfl)) ?_
                    refine QL.gy (j := 16) (t := 117) rfl rfl rfl hg168 rfl (Yld.qui (yld_neq rfl rfl rfl)) ?_
                    obtain rfl := Option.some.inj hF
                    refine QL.yld rfl rfl (Yld.qui (yld_pick_f rfl rfl hg168 rfl)) ?_
                    exact QL.nil fun a h => h.weaken ⟨rfl, rfl, rfl, rfl, rfl, rfl, rfl, trivial⟩
                refine QL.yld rfl rfl (Yld.qui (yld_move rfl rfl)) ?_
                obtain ⟨c190, hb191, hF⟩ := bsome hF
                refine QL.cut 17 [(3, .pointer (some ⟨b26, 0, none⟩)), (4, v42), (8, v77), (10, v87), (12, v97), (14, .int .i64 i134), (152, .bool c190)] ?_ ?_
                · rcases Bool.eq_false_or_eq_true c166 with hg192 | hg192
                  ·
                    rw [hg192] at hb191; simp only [cond_true, cond_false] at hb191
                    refine QL.gnu (j := 34) (t := 135) rfl rfl rfl hg192 rfl ?_
                    refine QL.gnu (j := 34) (t := 135) rfl rfl rfl hg192 rfl ?_
                    refine QL.gnu (j := 34) (t := 135) rfl rfl rfl hg192 rfl ?_
                    refine QL.gnu (j := 34) (t := 135) rfl rfl rfl hg192 rfl ?_
                    refine QL.gnu (j := 34) (t := 135) rfl rfl rfl hg192 rfl ?_
                    refine QL.gnu (j := 34) (t := 135) rfl rfl rfl hg192 rfl ?_
                    refine QL.gnu (j := 34) (t := 135) rfl rfl rfl hg192 rfl ?_
                    refine QL.gnu (j := 34) (t := 135) rfl rfl rfl hg192 rfl ?_
                    refine QL.gnu (j := 34) (t := 135) rfl rfl rfl hg192 rfl ?_
                    refine QL.gnu (j := 34) (t := 135) rfl rfl rfl hg192 rfl ?_
                    refine QL.gnu (j := 34) (t := 135) rfl rfl rfl hg192 rfl ?_
                    refine QL.gnu (j := 34) (t := 135) rfl rfl rfl hg192 rfl ?_
                    refine QL.gnu (j := 34) (t := 135) rfl rfl rfl hg192 rfl ?_
                    refine QL.gnu (j := 34) (t := 135) rfl rfl rfl hg192 rfl ?_
                    refine QL.gnu (j := 34) (t := 135) rfl rfl rfl hg192 rfl ?_
                    refine QL.gnu (j := 34) (t := 135) rfl rfl rfl hg192 rfl ?_
                    obtain rfl := Option.some.inj hb191
                    refine QL.yld rfl rfl (Yld.qui (yld_pick_t rfl rfl hg192 rfl)) ?_
                    exact QL.nil fun a h => h.weaken ⟨rfl, rfl, rfl, rfl, rfl, rfl, rfl, trivial⟩
                  ·
                    rw [hg192] at hb191; simp only [cond_true, cond_false] at hb191
                    replace hF := hb191
                    refine QL.gy (j := 34) (t := 135) rfl rfl rfl hg192 rfl (Yld.qui (yld_move rfl rfl)) ?_
                    refine QL.gy (j := 34) (t := 135) rfl rfl rfl hg192 rfl (Yld.qui (yld_move rfl rfl)) ?_
                    obtain ⟨x193, hy194, hF⟩ := bsome hF
                    refine QL.yeg (j := 34) (t := 135) rfl rfl rfl hg192 rfl (ye_index_own (c := (cInt .i64)) rfl Try.underlying45 cn_2 rfl rfl hs139 hy194) ?_
                    rintro _ ⟨g195, us197, rfl, hg196, hr198, hcl199⟩
                    have hr198r := hr198
                    obtain rfl := hr198
                    refine QL.gy (j := 34) (t := 135) rfl rfl rfl hg192 rfl (Yld.qui (yld_load1 0 rfl ag_2 rfl hcl199 rfl rfl)) ?_
                    refine QL.gy (j := 34) (t := 135) rfl rfl rfl hg192 rfl (Yld.qui (yld_move rfl rfl)) ?_
                    refine QL.gy (j := 34) (t := 135) rfl rfl rfl hg192 rfl (Yld.qui (yld_move rfl rfl)) ?_
                    obtain ⟨x200, hy201, hF⟩ := bsome hF
                    refine QL.yeg (j := 34) (t := 135) rfl rfl rfl hg192 rfl (ye_index_own (c := (cInt .i64)) rfl Try.underlying45 cn_2 rfl rfl hs136 hy201) ?_
                    rintro _ ⟨g202, us204, rfl, hg203, hr205, hcl206⟩
                    have hr205r := hr205
                    obtain rfl := hr205
                    refine QL.gy (j := 34) (t := 135) rfl rfl rfl hg192 rfl (Yld.qui (yld_load1 0 rfl ag_2 rfl hcl206 rfl rfl)) ?_
                    refine QL.gy (j := 34) (t := 135) rfl rfl rfl hg192 rfl (Yld.qui (yld_fieldAddr rfl fo_38_0 rfl)) ?_
                    refine QL.gy (j := 34) (t := 135) rfl rfl rfl hg192 rfl (Yld.qui (yld_load1 0 rfl ag_35 rfl (Box.cells hb135) rfl rfl)) ?_
                    refine QL.gy (j := 34) (t := 135) rfl rfl rfl hg192 rfl (Yld.qui (yld_move rfl rfl)) ?_
                    obtain ⟨x207, hy208, hF⟩ := bsome hF
                    refine QL.yeg (j := 34) (t := 135) rfl rfl rfl hg192 rfl (ye_index_own (c := C_Latch) rfl Try.underlying35 cn_50 rfl rfl hs140 hy208) ?_
                    rintro _ ⟨g209, us211, rfl, hg210, hr212, hcl213⟩
                    have hr212r := hr212
                    obtain rfl := C_Latch_open hr212
                    refine QL.gy (j := 34) (t := 135) rfl rfl rfl hg192 rfl (Yld.qui (yld_fieldAddr rfl fo_50_0 rfl)) ?_
                    refine QL.gy (j := 34) (t := 135) rfl rfl rfl hg192 rfl (Yld.qui (yld_load1 0 rfl ag_2 rfl hcl213 rfl rfl)) ?_
                    refine QL.gy (j := 34) (t := 135) rfl rfl rfl hg192 rfl (Yld.qui (yld_max2 rfl rfl rfl)) ?_
                    refine QL.gy (j := 34) (t := 135) rfl rfl rfl hg192 rfl (Yld.qui (yld_neq rfl rfl rfl)) ?_
                    obtain rfl := Option.some.inj hF
                    refine QL.yld rfl rfl (Yld.qui (yld_pick_f rfl rfl hg192 rfl)) ?_
                    exact QL.nil fun a h => h.weaken ⟨rfl, rfl, rfl, rfl, rfl, rfl, rfl, trivial⟩
                refine QL.done fun w214 hx215 => ?_
                have he216 : Ext w w214 := Ext.trans he133 hx215
                have hb135 := Box.ext hb135 hx215
                have hs136 := ownR.ext hs136 hx215
                have hs137 := ownR.ext hs137 hx215
                have hs138 := ownR.ext hs138 hx215
                have hs139 := ownR.ext hs139 hx215
                have hs140 := ownR.ext hs140 hx215
                have hs141 := ownR.ext hs141 hx215
                have hz217 := (hx215).size
                refine NX.seq ?_
                refine WC.cond rfl ?_ ?_
                · intro hc218
                  replace hF := bif_t hc218 hF
                  refine WC.seq ?_
                  refine WC.region ?_
                  refine TL.yld rfl rfl (yld_assign rfl rfl) ?_
                  refine TL.done ?_
                  refine NX.seq ?_
                  refine WC.ret' ?_
                  refine NX.blk_r ?_
                  refine NX.then_r ?_
                  refine NX.then_r ?_
                  refine NX.blk_r ?_
                  refine NX.then_r ?_
                  obtain rfl := Option.some.inj hF
                  exact NX.end (rs := [.tmp 2]) (vs := [.bool false]) rfl ⟨rfl, trivial⟩ ⟨_, rfl, rfl, he216⟩
                · intro hc219
                  replace hF := bif_f hc219 hF
                  refine WC.skip' ?_
                  refine NX.blk_n ?_
                  refine NX.seq ?_
                  refine WC.region ?_
                  refine TL.yld rfl rfl (yld_move rfl rfl) ?_
                  refine TL.yld rfl rfl (yld_add rfl rfl rfl) ?_
                  refine TL.yld rfl rfl (yld_assign rfl rfl) ?_
                  refine TL.done ?_
                  refine NX.then_n ?_
                  intro a hK; exact ⟨m142, Nat.lt_succ_self m142, (IntKind.wrap IntKind.i64 (i134 + 1)), hK.weaken ⟨rfl, rfl, rfl, rfl, rfl, rfl, trivial⟩, he216, (by omega), hb135, hs136, hs137, hs138, hs139, hs140, hs141, hF⟩
              · intro hc220
                replace hF := bif_f hc220 hF
                refine WC.exit' ?_
                refine NX.then_e ?_
                refine NX.then_e ?_
                refine NX.blk_hit ?_
                refine NX.seq ?_
                refine WC.seq ?_
                refine WC.region ?_
                refine TL.yld rfl rfl (yld_assign rfl rfl) ?_
                refine TL.done ?_
                refine NX.seq ?_
                refine WC.ret' ?_
                obtain rfl := Option.some.inj hF
                exact NX.end (rs := [.tmp 2]) (vs := [.bool true]) rfl ⟨rfl, trivial⟩ ⟨_, rfl, rfl, he133⟩

theorem Rd_5 : Rd Try.prog 5 (cInt .u8) (inK .u8) := Rd.int Try.underlying5
theorem Rd_42 : Rd Try.prog 42 (cSl (cInt .u8)) (fun xs => xs.length ≤ 9223372036854775807 ∧ ∀ x ∈ xs, (inK .u8) x) := Rd.slice Try.underlying42 (by kernel_rfl) rfl Rd_5
end Go.Proofs.Ytmhmpfckdhiijaa
