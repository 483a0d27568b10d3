/- The walks: every function that FnEdgePairs reaches computes the plain function that is typed beside it; no condition. -/
import Derived.Test.YthjagnioabgceabDoorWalkFnEdgePairsP0
import Derived.Test.YthjagnioabgceabDoorDat
import Derived.Test.YthjagnioabgceabDoorShelf
set_option linter.all false
set_option maxRecDepth 20000
namespace Go.Proofs.YthjagnioabgceabDoor
open Go Go.RowKit Go.Eng
-- loop.example/g00861/impl.IsClocks
def F_impl_IsClocks_L1 (n : Nat) (a0_list : List S_Clock) (k0 : (List ByteArray) → Int → Option Bool) : Nat → (List ByteArray) → Int → Option Bool
  | 0 => fun _ _ => none
  | m + 1 => fun l10 i14 => (bif decide (i14 < (a0_list.length : Int)) then (Option.bind (getI a0_list i14) fun x16 => (Option.bind (F_impl_isClock n a0_list i14) fun r36 => (bif (!r36) then (some false) else (Option.bind (appN l10 [x16.Name] 16) fun z57 => (F_impl_IsClocks_L1 n a0_list k0 m z57 (IntKind.wrap IntKind.i64 (i14 + 1))))))) else (k0 l10 i14))
theorem F_impl_IsClocks_L1_z (n : Nat) (a0_list : List S_Clock) (k0 : (List ByteArray) → Int → Option Bool) (l10 : List ByteArray) (i14 : Int) : F_impl_IsClocks_L1 n a0_list k0 0 l10 i14 = none := rfl
theorem F_impl_IsClocks_L1_s (m : Nat) (n : Nat) (a0_list : List S_Clock) (k0 : (List ByteArray) → Int → Option Bool) (l10 : List ByteArray) (i14 : Int) : F_impl_IsClocks_L1 n a0_list k0 (m + 1) l10 i14 = (bif decide (i14 < (a0_list.length : Int)) then (Option.bind (getI a0_list i14) fun x16 => (Option.bind (F_impl_isClock n a0_list i14) fun r36 => (bif (!r36) then (some false) else (Option.bind (appN l10 [x16.Name] 16) fun z57 => (F_impl_IsClocks_L1 n a0_list k0 m z57 (IntKind.wrap IntKind.i64 (i14 + 1))))))) else (k0 l10 i14)) := rfl

def F_impl_IsClocks (n : Nat) (a0_list : List S_Clock) : Option Bool := (bif decide ((a0_list.length : Int) > 6) then (some false) else (F_impl_IsClocks_L1 n a0_list (fun l10 i14 => (Option.bind (F_impl_areNames n l10) fun r15 => (some r15))) n (([] : List ByteArray)) 0))
set_option maxHeartbeats 40000000 in
theorem W_impl_IsClocks {n : Nat} {a0_list : List S_Clock} {r : Bool} {w : World} {v1 : Value} (hF : F_impl_IsClocks n a0_list = some r) (ha2 : slRep C_Clock w (Iv 0 w.heap.size) a0_list v1) :
    Calls Tryd.prog 101 [v1].toArray w (Ret fun u w2 => u = .bool r ∧ Ext w w2) := by
  refine calls_of Tryd.func101 rfl Tryd.ntmps101 ?_
  have he0 : Ext w w := Ext.refl w
  unfold F_impl_IsClocks at hF
  refine WC.seq ?_
  refine WC.region ?_
  refine TL.yld rfl rfl (yld_assign rfl rfl) ?_
  refine TL.done ?_
  refine NX.seq ?_
  refine WC.seq ?_
  refine WC.seq ?_
  refine WC.region ?_
  refine TL.yld rfl rfl (yld_move rfl rfl) ?_
  refine TL.yld rfl rfl (ye_len (c := C_Clock) rfl Tryd.underlying26 rfl (slRep.old ha2 he0 (Nat.le_refl _))) ?_
  refine TL.yld rfl rfl (yld_gtr rfl rfl rfl) ?_
  refine TL.done ?_
  refine NX.seq ?_
  refine WC.cond rfl ?_ ?_
  · intro hc3
    replace hF := bif_t hc3 hF
    refine WC.seq ?_
    refine WC.region ?_
    refine TL.yld rfl rfl (yld_assign rfl rfl) ?_
    refine TL.done ?_
    refine NX.seq ?_
    refine WC.ret' ?_
    refine NX.then_r ?_
    obtain rfl := Option.some.inj hF
    exact NX.end (rs := [.tmp 2]) (vs := [.bool false]) rfl ⟨rfl, trivial⟩ ⟨_, rfl, rfl, he0⟩
  · intro hc4
    replace hF := bif_f hc4 hF
    refine WC.skip' ?_
    refine NX.seq ?_
    refine WC.seq ?_
    refine WC.region ?_
    refine TL.yld rfl rfl (yld_assign rfl rfl) ?_
    refine TL.done ?_
    refine NX.seq ?_
    refine WC.seq ?_
    refine WC.seq ?_
    refine WC.region ?_
    refine TL.yld rfl rfl (yld_move rfl rfl) ?_
    refine TL.yld rfl rfl (ye_len (c := C_Clock) rfl Tryd.underlying26 rfl (slRep.old ha2 he0 (Nat.le_refl _))) ?_
    refine TL.yld rfl rfl (yld_move rfl rfl) ?_
    refine TL.done ?_
    refine NX.seq ?_
    refine WC.block ?_
    have hs7 : ownR cStr w (w.heap.size) (Iv 0 0) 9 [] (.slice none 0 0) := ownR.nil _ _ _ _ _
    have hbd8 : ∀ q, (Value.slice none 0 0).ownBlock = some q → w.heap.size ≤ q ∧ q < w.heap.size := bd_nil
    refine WC.loop (fun m15 a wl => ∃ (l10 : List ByteArray) (v11 : Value) (i14 : Int), Kn 28 [(0, v1), (3, v11), (9, v1), (10, .int .i64 ((a0_list.length : Int))), (11, .int .i64 i14)] a ∧ Ext w wl ∧ w.heap.size ≤ wl.heap.size ∧ ownR cStr wl (w.heap.size) (Iv 0 0) 9 l10 v11 ∧ (∀ q, v11.ownBlock = some q → w.heap.size ≤ q ∧ q < wl.heap.size) ∧ F_impl_IsClocks_L1 n a0_list (fun l10 i14 => (Option.bind (F_impl_areNames n l10) fun r15 => (some r15))) m15 l10 i14 = some r) n ?_ ?_
    · intro a hK; exact ⟨(([] : List ByteArray)), ((.slice none 0 0)), 0, hK.weaken ⟨rfl, rfl, rfl, rfl, rfl, trivial⟩, he0, Nat.le_refl _, hs7, (fun g hg => by have := hbd8 g hg; omega), hF⟩
    · rintro m15 a w5 ⟨l10, v11, i14, hK, he6, hz16, hs12, hbd13, hF⟩
      revert hK; revert a; refine (?_ : WC _ _ _ _ _ _)
      cases m15 with
      | zero => rw [F_impl_IsClocks_L1_z] at hF; cases hF
      | succ m15 =>
        rw [F_impl_IsClocks_L1_s] at hF
        refine WC.seq ?_
        refine WC.region ?_
        refine TL.yld rfl rfl (yld_lss rfl rfl rfl) ?_
        refine TL.done ?_
        refine NX.seq ?_
        refine WC.seq ?_
        refine WC.cond rfl ?_ ?_
        · intro hc17
          replace hF := bif_t hc17 hF
          refine WC.skip' ?_
          refine NX.seq ?_
          refine WC.seq ?_
          refine WC.block ?_
          refine WC.seq ?_
          refine WC.region ?_
          refine TL.yld rfl rfl (yld_move rfl rfl) ?_
          obtain ⟨x18, hy19, hF⟩ := bsome hF
          refine TL.ye rfl rfl (ye_index (c := C_Clock) rfl Tryd.underlying26 cn_75 rfl rfl (slRep.old ha2 he6 (Nat.le_refl _)) hy19) ?_
          rintro _ ⟨b20, o21, us22, rfl, hib25, hr23, hcl24⟩
          have hib25 : 0 ≤ b20 ∧ b20 < w.heap.size := ⟨hib25.1, by have := hib25.2; omega⟩
          obtain rfl := C_Clock_open hr23
          refine TL.yld rfl rfl (yld_loadN (us := [.string x18.Name, .int .i64 x18.Place, .int .i64 x18.Period, .int .i64 x18.RiseAt, .int .i64 x18.FallAt, .int .i64 x18.Source, .int .i64 x18.Divide, .bool x18.Invert, .int .i64 x18.EarlyLatency, .int .i64 x18.LateLatency, .int .i64 x18.Uncertainty]) rfl ag_75 rfl hcl24 cn_75) ?_
          refine TL.eff rfl rfl (eff_alloc rfl zn_75) ?_
          rintro _ w27 ⟨b26, rfl, hn28⟩
          obtain ⟨hn28e, hn28s, hn28x, hb29⟩ := hn28
          have hb29 : Box w27 b26 [.string ByteArray.empty, .int .i64 0, .int .i64 0, .int .i64 0, .int .i64 0, .int .i64 0, .int .i64 0, .bool false, .int .i64 0, .int .i64 0, .int .i64 0] 75 := hb29
          have he31 : Ext w w27 := Ext.trans he6 hn28x
          have hs12 := ownR.ext hs12 hn28x
          have hz32 := (hn28x).size
          have hlo30 : w.heap.size ≤ b26 := by rw [hn28e]; exact (he6).size
          refine TL.yld rfl rfl (yld_assign rfl rfl) ?_
          refine TL.eff rfl rfl (eff_store rfl rfl rfl hb29 cn_75 rfl rfl) ?_
          rintro _ w33 ⟨hu34, hb35⟩
          have he36 : Ext w w33 := Below.trans he31 (Upd.below hu34 (by omega))
          have hs12 := ownR.upd hs12 hu34 (fun g hg => by have := hbd13 g hg; omega)
          have hz37 := (hu34).size
          have hb29 : Box w33 b26 [.string x18.Name, .int .i64 x18.Place, .int .i64 x18.Period, .int .i64 x18.RiseAt, .int .i64 x18.FallAt, .int .i64 x18.Source, .int .i64 x18.Divide, .bool x18.Invert, .int .i64 x18.EarlyLatency, .int .i64 x18.LateLatency, .int .i64 x18.Uncertainty] 75 := hb35
          refine TL.done ?_
          refine NX.seq ?_
          refine WC.seq ?_
          refine WC.seq ?_
          refine WC.region ?_
          refine TL.yld rfl rfl (yld_move rfl rfl) ?_
          refine TL.yld rfl rfl (yld_move rfl rfl) ?_
          obtain ⟨r38, hr39, hF⟩ := bsome hF
          refine TL.eff rfl rfl (eff_call rfl gf_134 rfl (W_impl_isClock hr39 ((slRep.old ha2 he36 (Nat.le_refl _)).wide (Nat.le_refl _) (he36).size))) ?_
          rintro _ w40 ⟨rfl, hx41⟩
          have he42 : Ext w w40 := Ext.trans he36 hx41
          have hb29 := Box.ext hb29 hx41
          have hs12 := ownR.ext hs12 hx41
          have hz43 := (hx41).size
          refine TL.yld rfl rfl (yld_not rfl rfl) ?_
          refine TL.done ?_
          refine NX.seq ?_
          refine WC.cond rfl ?_ ?_
          · intro hc44
            replace hF := bif_t hc44 hF
            refine WC.seq ?_
            refine WC.region ?_
            refine TL.yld rfl rfl (yld_assign rfl rfl) ?_
            refine TL.done ?_
            refine NX.seq ?_
            refine WC.ret' ?_
            refine NX.then_r ?_
            refine NX.blk_r ?_
            refine NX.then_r ?_
            refine NX.then_r ?_
            refine NX.blk_r ?_
            refine NX.then_r ?_
            obtain rfl := Option.some.inj hF
            exact NX.end (rs := [.tmp 2]) (vs := [.bool false]) rfl ⟨rfl, trivial⟩ ⟨_, rfl, rfl, he42⟩
          · intro hc45
            replace hF := bif_f hc45 hF
            refine WC.skip' ?_
            refine NX.seq ?_
            refine WC.region ?_
            refine TL.yld rfl rfl (yld_move rfl rfl) ?_
            refine TL.yld rfl rfl (yld_fieldAddr rfl fo_75_0 rfl) ?_
            refine TL.yld rfl rfl (yld_load1 0 rfl ag_9 rfl (Box.cells hb29) rfl rfl) ?_
            refine TL.eff rfl rfl (eff_buildSlice (c := cStr) (xs := [x18.Name]) (S := (Iv 0 0)) (uss := [(0, [.string x18.Name])]) (out := [.string x18.Name]) rfl Tryd.underlying133 in_9 rfl rfl (fillL_all [[.string x18.Name]] rfl rfl rfl) rfl rfl rfl rfl (one_rep (uss := [[.string x18.Name]]) (show reps _ _ _ _ _ from ⟨rfl, trivial⟩) rfl) (fun k h => by have := h.2; omega) rfl) ?_
            rintro v46 w47 ⟨g48, hv49, hg50, hz51, hx52, hs53⟩
            have he54 : Ext w w47 := Ext.trans he42 hx52
            have hb29 := Box.ext hb29 hx52
            have hs12 := ownR.ext hs12 hx52
            have hz55 := (hx52).size
            have hlo56 : w.heap.size ≤ g48 := by rw [hg50]; exact (he42).size
            have hbd57 := bd_of hv49
            clear hv49
            obtain ⟨z59, ha60, hF⟩ := bsome hF
            refine TL.eff rfl rfl (eff_appendF (c := cStr) rfl Tryd.underlying133 in_9 rfl rfl rfl rfl rfl hs12 (by omega) (ownR.slf hs53 (Nat.le_refl _) (Nat.le_refl _)) ha60) ?_
            rintro v61 w62 ⟨hs63, hgr64⟩
            have he66 : Ext w w62 := Below.trans he54 (Grew.low hgr64 (fun g hg => by have := hbd13 g hg; omega) (he54).size)
            have hp67 : ∀ g, v61.ownBlock = some g → g ≠ b26 := Grew.sepP (p := fun g => g ≠ b26) hgr64 (fun g hg => by have := hbd13 g hg; omega) (fun g hg => by omega)
            have hb29 := Grew.box hgr64 hb29 (fun g hg => by have := hbd13 g hg; omega)
            have hp68 : ∀ g q, v11.ownBlock = some g → v46.ownBlock = some q → g ≠ q := (fun g q hg hq => by have := hbd13 g hg; have := hbd57 q hq; omega)
            have hp69 : ∀ g q, v61.ownBlock = some g → v46.ownBlock = some q → g ≠ q := fun g q hg hq => Grew.sepP (p := fun g => ∀ q, v46.ownBlock = some q → g ≠ q) hgr64 (fun g hg q hq => (hp68) g q hg hq) (fun g hg q hq => by have := hbd57 q hq; omega) g hg q hq
            have hs53 := Grew.ownF hgr64 hs53 hp68
            have hz70 := (hgr64).1.size
            have hbd71 : ∀ g, v61.ownBlock = some g → w.heap.size ≤ g ∧ g < w62.heap.size := Grew.bd hgr64 hs63 (fun g hg => ⟨by have := hbd13 g hg; omega, (hbd13 g hg).2⟩) (by omega) (by omega)
            refine TL.yld rfl rfl (yld_assign rfl rfl) ?_
            refine TL.done ?_
            refine NX.blk_n ?_
            refine NX.seq ?_
            refine WC.region ?_
            refine TL.yld rfl rfl (yld_add rfl rfl rfl) ?_
            refine TL.yld rfl rfl (yld_move rfl rfl) ?_
            refine TL.done ?_
            refine NX.then_n ?_
            intro a hK; exact ⟨m15, Nat.lt_succ_self m15, z59, v61, (IntKind.wrap IntKind.i64 (i14 + 1)), hK.weaken ⟨rfl, rfl, rfl, rfl, rfl, trivial⟩, he66, (by omega), hs63, (fun g hg => by have := hbd71 g hg; omega), hF⟩
        · intro hc72
          replace hF := bif_f hc72 hF
          refine WC.exit' ?_
          refine NX.then_e ?_
          refine NX.then_e ?_
          refine NX.blk_hit ?_
          refine NX.seq ?_
          refine WC.seq ?_
          refine WC.region ?_
          refine TL.yld rfl rfl (yld_move rfl rfl) ?_
          obtain ⟨r73, hr74, hF⟩ := bsome hF
          refine TL.eff rfl rfl (eff_call rfl gf_135 rfl (W_impl_areNames hr74 (ownR.slf hs12 (Nat.zero_le _) (Nat.le_refl _)))) ?_
          rintro _ w75 ⟨rfl, hx76⟩
          have he77 : Ext w w75 := Ext.trans he6 hx76
          have hs12 := ownR.ext hs12 hx76
          have hz78 := (hx76).size
          refine TL.yld rfl rfl (yld_assign rfl rfl) ?_
          refine TL.done ?_
          refine NX.seq ?_
          refine WC.ret' ?_
          obtain rfl := Option.some.inj hF
          exact NX.end (rs := [.tmp 2]) (vs := [.bool r73]) rfl ⟨rfl, trivial⟩ ⟨_, rfl, rfl, he77⟩

-- loop.example/g00861/impl.length[loop.example/g00861/impl.Clock]
def F_impl_length_impl_Clock (n : Nat) (a0_list : List S_Clock) : Option Int := (some ((a0_list.length : Int)))
set_option maxHeartbeats 40000000 in
theorem W_impl_length_impl_Clock {n : Nat} {a0_list : List S_Clock} {r : Int} {w : World} {v1 : Value} (hF : F_impl_length_impl_Clock n a0_list = some r) (ha2 : slRep C_Clock w (Iv 0 w.heap.size) a0_list v1) :
    Calls Tryd.prog 102 [v1].toArray w (Ret fun u w2 => u = .int .i64 r ∧ Ext w w2) := by
  refine calls_of Tryd.func102 rfl Tryd.ntmps102 ?_
  have he0 : Ext w w := Ext.refl w
  unfold F_impl_length_impl_Clock at hF
  refine WC.seq ?_
  refine WC.region ?_
  refine TL.yld rfl rfl (yld_assign rfl rfl) ?_
  refine TL.done ?_
  refine NX.seq ?_
  refine WC.seq ?_
  refine WC.region ?_
  refine TL.yld rfl rfl (yld_move rfl rfl) ?_
  refine TL.yld rfl rfl (ye_len (c := C_Clock) rfl Tryd.underlying26 rfl (slRep.old ha2 he0 (Nat.le_refl _))) ?_
  refine TL.yld rfl rfl (yld_assign rfl rfl) ?_
  refine TL.done ?_
  refine NX.seq ?_
  refine WC.ret' ?_
  obtain rfl := Option.some.inj hF
  exact NX.end (rs := [.tmp 2]) (vs := [.int .i64 ((a0_list.length : Int))]) rfl ⟨rfl, trivial⟩ ⟨_, rfl, rfl, he0⟩

-- loop.example/g00861/impl.clockCode
def F_impl_clockCode (n : Nat) (a0_list : List S_Clock) (a1_clocks : List Int) : Option Int := (Option.bind (F_impl_IsClocks n a0_list) fun r5 => (bif (!r5) then (some 1) else (Option.bind (F_impl_length_impl_Clock n a0_list) fun r13 => (Option.bind (F_impl_areWithin n a1_clocks 0 (IntKind.wrap IntKind.i64 (r13 - 1))) fun r19 => (bif (!r19) then (some 4) else (some 0))))))
set_option maxHeartbeats 40000000 in
theorem W_impl_clockCode {n : Nat} {a0_list : List S_Clock} {a1_clocks : List Int} {r : Int} {w : World} {v1 : Value} {v3 : Value} (hF : F_impl_clockCode n a0_list a1_clocks = some r) (ha2 : slRep C_Clock w (Iv 0 w.heap.size) a0_list v1) (ha4 : slRep (cInt .i64) w (Iv 0 w.heap.size) a1_clocks v3) :
    Calls Tryd.prog 60 [v1, v3].toArray w (Ret fun u w2 => u = .int .i64 r ∧ Ext w w2) := by
  refine calls_of Tryd.func60 rfl Tryd.ntmps60 ?_
  have he0 : Ext w w := Ext.refl w
  unfold F_impl_clockCode at hF
  refine WC.seq ?_
  refine WC.region ?_
  refine TL.yld rfl rfl (yld_assign rfl rfl) ?_
  refine TL.done ?_
  refine NX.seq ?_
  refine WC.seq ?_
  refine WC.block ?_
  refine WC.seq ?_
  refine WC.region ?_
  refine TL.yld rfl rfl (yld_move rfl rfl) ?_
  obtain ⟨r5, hr6, hF⟩ := bsome hF
  refine TL.eff rfl rfl (eff_call rfl gf_101 rfl (W_impl_IsClocks hr6 ((slRep.old ha2 he0 (Nat.le_refl _)).wide (Nat.le_refl _) (he0).size))) ?_
  rintro _ w7 ⟨rfl, hx8⟩
  have he9 : Ext w w7 := Ext.trans he0 hx8
  have hz10 := (hx8).size
  refine TL.yld rfl rfl (yld_not rfl rfl) ?_
  refine TL.yld rfl rfl (yld_assign rfl rfl) ?_
  refine TL.done ?_
  refine NX.seq ?_
  refine WC.cond rfl ?_ ?_
  · intro hc11
    replace hF := bif_t hc11 hF
    refine WC.seq ?_
    refine WC.region ?_
    refine TL.yld rfl rfl (yld_assign rfl rfl) ?_
    refine TL.done ?_
    refine NX.seq ?_
    refine WC.ret' ?_
    refine NX.blk_r ?_
    refine NX.then_r ?_
    obtain rfl := Option.some.inj hF
    exact NX.end (rs := [.tmp 4]) (vs := [.int .i64 1]) rfl ⟨rfl, trivial⟩ ⟨_, rfl, rfl, he9⟩
  · intro hc12
    replace hF := bif_f hc12 hF
    refine WC.seq ?_
    refine WC.region ?_
    refine TL.yld rfl rfl (yld_move rfl rfl) ?_
    refine TL.yld rfl rfl (yld_move rfl rfl) ?_
    obtain ⟨r13, hr14, hF⟩ := bsome hF
    refine TL.eff rfl rfl (eff_call rfl gf_102 rfl (W_impl_length_impl_Clock hr14 ((slRep.old ha2 he9 (Nat.le_refl _)).wide (Nat.le_refl _) (he9).size))) ?_
    rintro _ w15 ⟨rfl, hx16⟩
    have he17 : Ext w w15 := Ext.trans he9 hx16
    have hz18 := (hx16).size
    refine TL.yld rfl rfl (yld_sub rfl rfl rfl) ?_
    obtain ⟨r19, hr20, hF⟩ := bsome hF
    refine TL.eff rfl rfl (eff_call rfl gf_82 rfl (W_impl_areWithin hr20 ((slRep.old ha4 he17 (Nat.le_refl _)).wide (Nat.le_refl _) (he17).size))) ?_
    rintro _ w21 ⟨rfl, hx22⟩
    have he23 : Ext w w21 := Ext.trans he17 hx22
    have hz24 := (hx22).size
    refine TL.yld rfl rfl (yld_not rfl rfl) ?_
    refine TL.yld rfl rfl (yld_assign rfl rfl) ?_
    refine TL.done ?_
    refine NX.seq ?_
    refine WC.cond rfl ?_ ?_
    · intro hc25
      replace hF := bif_t hc25 hF
      refine WC.seq ?_
      refine WC.region ?_
      refine TL.yld rfl rfl (yld_assign rfl rfl) ?_
      refine TL.done ?_
      refine NX.seq ?_
      refine WC.ret' ?_
      refine NX.blk_r ?_
      refine NX.then_r ?_
      obtain rfl := Option.some.inj hF
      exact NX.end (rs := [.tmp 4]) (vs := [.int .i64 4]) rfl ⟨rfl, trivial⟩ ⟨_, rfl, rfl, he23⟩
    · intro hc26
      replace hF := bif_f hc26 hF
      refine WC.skip' ?_
      refine NX.blk_n ?_
      refine NX.seq ?_
      refine WC.seq ?_
      refine WC.region ?_
      refine TL.yld rfl rfl (yld_assign rfl rfl) ?_
      refine TL.done ?_
      refine NX.seq ?_
      refine WC.ret' ?_
      obtain rfl := Option.some.inj hF
      exact NX.end (rs := [.tmp 4]) (vs := [.int .i64 0]) rfl ⟨rfl, trivial⟩ ⟨_, rfl, rfl, he23⟩

-- loop.example/g00861/impl.gcd
def F_impl_gcd_L1 (k0 : Int → Int → Option Int) : Nat → Int → Int → Option Int
  | 0 => fun _ _ => none
  | m + 1 => fun i3 i4 => (bif (i4 != 0) then (bif (i4 == 0) then none else (F_impl_gcd_L1 k0 m i4 (Int.tmod i3 i4))) else (k0 i3 i4))
theorem F_impl_gcd_L1_z (k0 : Int → Int → Option Int) (i3 : Int) (i4 : Int) : F_impl_gcd_L1 k0 0 i3 i4 = none := rfl
theorem F_impl_gcd_L1_s (m : Nat) (k0 : Int → Int → Option Int) (i3 : Int) (i4 : Int) : F_impl_gcd_L1 k0 (m + 1) i3 i4 = (bif (i4 != 0) then (bif (i4 == 0) then none else (F_impl_gcd_L1 k0 m i4 (Int.tmod i3 i4))) else (k0 i3 i4)) := rfl

def F_impl_gcd (n : Nat) (a0_a : Int) (a1_b : Int) : Option Int := (F_impl_gcd_L1 (fun i3 i4 => (some i3)) n a0_a a1_b)
set_option maxHeartbeats 40000000 in
theorem W_impl_gcd {n : Nat} {a0_a : Int} {a1_b : Int} {r : Int} {w : World} (hF : F_impl_gcd n a0_a a1_b = some r) :
    Calls Tryd.prog 103 [.int .i64 a0_a, .int .i64 a1_b].toArray w (Ret fun u w2 => u = .int .i64 r ∧ Ext w w2) := by
  refine calls_of Tryd.func103 rfl Tryd.ntmps103 ?_
  have he0 : Ext w w := Ext.refl w
  unfold F_impl_gcd at hF
  refine WC.seq ?_
  refine WC.region ?_
  refine TL.yld rfl rfl (yld_assign rfl rfl) ?_
  refine TL.done ?_
  refine NX.seq ?_
  refine WC.seq ?_
  refine WC.block ?_
  refine WC.loop (fun m5 a wl => ∃ (i3 : Int) (i4 : Int), Kn 12 [(0, .int .i64 i3), (1, .int .i64 i4)] a ∧ Ext w wl ∧ w.heap.size ≤ wl.heap.size ∧ F_impl_gcd_L1 (fun i3 i4 => (some i3)) m5 i3 i4 = some r) n ?_ ?_
  · intro a hK; exact ⟨a0_a, a1_b, hK.weaken ⟨rfl, rfl, trivial⟩, he0, Nat.le_refl _, hF⟩
  · rintro m5 a w1 ⟨i3, i4, hK, he2, hz6, hF⟩
    revert hK; revert a; refine (?_ : WC _ _ _ _ _ _)
    cases m5 with
    | zero => rw [F_impl_gcd_L1_z] at hF; cases hF
    | succ m5 =>
      rw [F_impl_gcd_L1_s] at hF
      refine WC.seq ?_
      refine WC.seq ?_
      refine WC.region ?_
      refine TL.yld rfl rfl (yld_move rfl rfl) ?_
      refine TL.yld rfl rfl (yld_neq rfl rfl rfl) ?_
      refine TL.done ?_
      refine NX.seq ?_
      refine WC.cond rfl ?_ ?_
      · intro hc7
        replace hF := bif_t hc7 hF
        refine WC.skip' ?_
        refine NX.seq ?_
        refine WC.block ?_
        refine WC.quiet Tryd.hm (by kernel_rfl) ?_
        refine QL.yld rfl rfl (Yld.qui (yld_move rfl rfl)) ?_
        refine QL.yld rfl rfl (Yld.qui (yld_move rfl rfl)) ?_
        refine QL.yld rfl rfl (Yld.qui (yld_move rfl rfl)) ?_
        obtain ⟨hn8, hF⟩ := nzero hF
        refine QL.yld rfl rfl (Yld.qui (yld_rem rfl rfl rfl hn8)) ?_
        refine QL.yld rfl rfl (Yld.qui (yld_assign rfl rfl)) ?_
        refine QL.yld rfl rfl (Yld.qui (yld_assign rfl rfl)) ?_
        refine QL.done fun w9 hx10 => ?_
        have he11 : Ext w w9 := Ext.trans he2 hx10
        have hz12 := (hx10).size
        refine NX.blk_n ?_
        refine NX.then_n ?_
        intro a hK; exact ⟨m5, Nat.lt_succ_self m5, i4, (Int.tmod i3 i4), hK.weaken ⟨rfl, rfl, trivial⟩, he11, (by omega), hF⟩
      · intro hc13
        replace hF := bif_f hc13 hF
        refine WC.exit' ?_
        refine NX.then_e ?_
        refine NX.then_e ?_
        refine NX.blk_hit ?_
        refine NX.seq ?_
        refine WC.seq ?_
        refine WC.region ?_
        refine TL.yld rfl rfl (yld_move rfl rfl) ?_
        refine TL.yld rfl rfl (yld_assign rfl rfl) ?_
        refine TL.done ?_
        refine NX.seq ?_
        refine WC.ret' ?_
        obtain rfl := Option.some.inj hF
        exact NX.end (rs := [.tmp 4]) (vs := [.int .i64 i3]) rfl ⟨rfl, trivial⟩ ⟨_, rfl, rfl, he2⟩

-- loop.example/g00861/impl.hyperPeriod
def F_impl_hyperPeriod (n : Nat) (a0_list : List S_Clock) (a1_a : Int) (a2_b : Int) : Option Int := (Option.bind (F_impl_waveOf n a0_list a1_a) fun r3 => (Option.bind (F_impl_waveOf n a0_list a2_b) fun r9 => (Option.bind (F_impl_gcd n r3.period_ r9.period_) fun r15 => (bif (r15 == 0) then none else (some (IntKind.wrap IntKind.i64 ((IntKind.wrap IntKind.i64 (Int.tdiv r3.period_ r15)) * r9.period_)))))))
set_option maxHeartbeats 40000000 in
theorem W_impl_hyperPeriod {n : Nat} {a0_list : List S_Clock} {a1_a : Int} {a2_b : Int} {r : Int} {w : World} {v1 : Value} (hF : F_impl_hyperPeriod n a0_list a1_a a2_b = some r) (ha2 : slRep C_Clock w (Iv 0 w.heap.size) a0_list v1) :
    Calls Tryd.prog 61 [v1, .int .i64 a1_a, .int .i64 a2_b].toArray w (Ret fun u w2 => u = .int .i64 r ∧ Ext w w2) := by
  refine calls_of Tryd.func61 rfl Tryd.ntmps61 ?_
  have he0 : Ext w w := Ext.refl w
  unfold F_impl_hyperPeriod at hF
  refine WC.seq ?_
  refine WC.region ?_
  refine TL.yld rfl rfl (yld_assign rfl rfl) ?_
  refine TL.done ?_
  refine NX.seq ?_
  refine WC.seq ?_
  refine WC.region ?_
  refine TL.yld rfl rfl (yld_move rfl rfl) ?_
  refine TL.yld rfl rfl (yld_move rfl rfl) ?_
  obtain ⟨r3, hr4, hF⟩ := bsome hF
  refine TL.eff rfl rfl (eff_call rfl gf_64 rfl (W_impl_waveOf hr4 ((slRep.old ha2 he0 (Nat.le_refl _)).wide (Nat.le_refl _) (he0).size))) ?_
  rintro _ w5 ⟨rfl, hx6⟩
  have he7 : Ext w w5 := Ext.trans he0 hx6
  have hz8 := (hx6).size
  refine TL.yld rfl rfl (yld_field1 rfl ft_84_0 ag_2 rfl rfl) ?_
  refine TL.yld rfl rfl (yld_move rfl rfl) ?_
  refine TL.yld rfl rfl (yld_move rfl rfl) ?_
  obtain ⟨r9, hr10, hF⟩ := bsome hF
  refine TL.eff rfl rfl (eff_call rfl gf_64 rfl (W_impl_waveOf hr10 ((slRep.old ha2 he7 (Nat.le_refl _)).wide (Nat.le_refl _) (he7).size))) ?_
  rintro _ w11 ⟨rfl, hx12⟩
  have he13 : Ext w w11 := Ext.trans he7 hx12
  have hz14 := (hx12).size
  refine TL.yld rfl rfl (yld_field1 rfl ft_84_0 ag_2 rfl rfl) ?_
  refine TL.yld rfl rfl (yld_assign rfl rfl) ?_
  refine TL.yld rfl rfl (yld_assign rfl rfl) ?_
  refine TL.done ?_
  refine NX.seq ?_
  refine WC.seq ?_
  refine WC.region ?_
  refine TL.yld rfl rfl (yld_move rfl rfl) ?_
  refine TL.yld rfl rfl (yld_move rfl rfl) ?_
  refine TL.yld rfl rfl (yld_move rfl rfl) ?_
  obtain ⟨r15, hr16, hF⟩ := bsome hF
  refine TL.eff rfl rfl (eff_call rfl gf_103 rfl (W_impl_gcd hr16)) ?_
  rintro _ w17 ⟨rfl, hx18⟩
  have he19 : Ext w w17 := Ext.trans he13 hx18
  have hz20 := (hx18).size
  obtain ⟨hn21, hF⟩ := nzero hF
  refine TL.yld rfl rfl (yld_quo rfl rfl rfl hn21) ?_
  refine TL.yld rfl rfl (yld_move rfl rfl) ?_
  refine TL.yld rfl rfl (yld_mul rfl rfl rfl) ?_
  refine TL.yld rfl rfl (yld_assign rfl rfl) ?_
  refine TL.done ?_
  refine NX.seq ?_
  refine WC.ret' ?_
  obtain rfl := Option.some.inj hF
  exact NX.end (rs := [.tmp 6]) (vs := [.int .i64 (IntKind.wrap IntKind.i64 ((IntKind.wrap IntKind.i64 (Int.tdiv r3.period_ r15)) * r9.period_))]) rfl ⟨rfl, trivial⟩ ⟨_, rfl, rfl, he19⟩

-- loop.example/g00861/impl.isTransition
def F_impl_isTransition (n : Nat) (a0_n : Int) : Option Bool := (some ((((a0_n == 0)) || ((a0_n == 1)))))
set_option maxHeartbeats 40000000 in
theorem W_impl_isTransition {n : Nat} {a0_n : Int} {r : Bool} {w : World} (hF : F_impl_isTransition n a0_n = some r) :
    Calls Tryd.prog 62 [.int .i64 a0_n].toArray w (Ret fun u w2 => u = .bool r ∧ Ext w w2) := by
  refine calls_of Tryd.func62 rfl Tryd.ntmps62 ?_
  have he0 : Ext w w := Ext.refl w
  unfold F_impl_isTransition at hF
  refine WC.seq ?_
  refine WC.region ?_
  refine TL.yld rfl rfl (yld_assign rfl rfl) ?_
  refine TL.done ?_
  refine NX.seq ?_
  refine WC.seq ?_
  refine WC.region ?_
  refine TL.yld rfl rfl (yld_move rfl rfl) ?_
  refine TL.yld rfl rfl (yld_eql rfl rfl rfl) ?_
  refine TL.yld rfl rfl (yld_move rfl rfl) ?_
  refine TL.cut 3 [(8, .bool ((((a0_n == 0)) || ((a0_n == 1)))))] (fun w' => Ext w w') ?_ ?_
  · rcases Bool.eq_false_or_eq_true ((a0_n == 0)) with hg1 | hg1
    ·
      refine TL.gnu (j := 2) (t := 5) rfl rfl rfl hg1 rfl ?_
      refine TL.gnu (j := 2) (t := 5) rfl rfl rfl hg1 rfl ?_
      refine TL.yld rfl rfl (yld_or_t (b2 := (a0_n == 1)) rfl rfl hg1 rfl) ?_
      exact TL.nil fun a h => ⟨h.weaken ⟨rfl, trivial⟩, Ext.refl _⟩
    ·
      refine TL.gy (j := 2) (t := 5) rfl rfl rfl hg1 rfl (yld_move rfl rfl) ?_
      refine TL.gy (j := 2) (t := 5) rfl rfl rfl hg1 rfl (yld_eql rfl rfl rfl) ?_
      refine TL.yld rfl rfl (yld_or_f rfl rfl hg1 rfl) ?_
      exact TL.nil fun a h => ⟨h.weaken ⟨rfl, trivial⟩, Ext.refl _⟩
  intro w2 hx3
  have he4 : Ext w w2 := Ext.trans he0 hx3
  have hz5 := (hx3).size
  refine TL.yld rfl rfl (yld_assign rfl rfl) ?_
  refine TL.done ?_
  refine NX.seq ?_
  refine WC.ret' ?_
  obtain rfl := Option.some.inj hF
  exact NX.end (rs := [.tmp 2]) (vs := [.bool ((((a0_n == 0)) || ((a0_n == 1))))]) rfl ⟨rfl, trivial⟩ ⟨_, rfl, rfl, he4⟩

-- loop.example/g00861/impl.rootOf
def F_impl_rootOf_L1 (a0_list : List S_Clock) (k0 : Int → Option Int) : Nat → Int → Option Int
  | 0 => fun _ => none
  | m + 1 => fun i5 => (Option.bind (getI a0_list i5) fun x6 => (bif decide (x6.Source ≥ 0) then (Option.bind (getI a0_list i5) fun x15 => (F_impl_rootOf_L1 a0_list k0 m x15.Source)) else (k0 i5)))
theorem F_impl_rootOf_L1_z (a0_list : List S_Clock) (k0 : Int → Option Int) (i5 : Int) : F_impl_rootOf_L1 a0_list k0 0 i5 = none := rfl
theorem F_impl_rootOf_L1_s (m : Nat) (a0_list : List S_Clock) (k0 : Int → Option Int) (i5 : Int) : F_impl_rootOf_L1 a0_list k0 (m + 1) i5 = (Option.bind (getI a0_list i5) fun x6 => (bif decide (x6.Source ≥ 0) then (Option.bind (getI a0_list i5) fun x15 => (F_impl_rootOf_L1 a0_list k0 m x15.Source)) else (k0 i5))) := rfl

def F_impl_rootOf (n : Nat) (a0_list : List S_Clock) (a1_k : Int) : Option Int := (F_impl_rootOf_L1 a0_list (fun i5 => (some i5)) n a1_k)
set_option maxHeartbeats 40000000 in
theorem W_impl_rootOf {n : Nat} {a0_list : List S_Clock} {a1_k : Int} {r : Int} {w : World} {v1 : Value} (hF : F_impl_rootOf n a0_list a1_k = some r) (ha2 : slRep C_Clock w (Iv 0 w.heap.size) a0_list v1) :
    Calls Tryd.prog 97 [v1, .int .i64 a1_k].toArray w (Ret fun u w2 => u = .int .i64 r ∧ Ext w w2) := by
  refine calls_of Tryd.func97 rfl Tryd.ntmps97 ?_
  have he0 : Ext w w := Ext.refl w
  unfold F_impl_rootOf at hF
  refine WC.seq ?_
  refine WC.region ?_
  refine TL.yld rfl rfl (yld_assign rfl rfl) ?_
  refine TL.done ?_
  refine NX.seq ?_
  refine WC.seq ?_
  refine WC.block ?_
  refine WC.loop (fun m6 a wl => ∃ (i5 : Int), Kn 17 [(0, v1), (1, .int .i64 i5)] a ∧ Ext w wl ∧ w.heap.size ≤ wl.heap.size ∧ F_impl_rootOf_L1 a0_list (fun i5 => (some i5)) m6 i5 = some r) n ?_ ?_
  · intro a hK; exact ⟨a1_k, hK.weaken ⟨rfl, rfl, trivial⟩, he0, Nat.le_refl _, hF⟩
  · rintro m6 a w3 ⟨i5, hK, he4, hz7, hF⟩
    revert hK; revert a; refine (?_ : WC _ _ _ _ _ _)
    cases m6 with
    | zero => rw [F_impl_rootOf_L1_z] at hF; cases hF
    | succ m6 =>
      rw [F_impl_rootOf_L1_s] at hF
      refine WC.seq ?_
      refine WC.seq ?_
      refine WC.region ?_
      refine TL.yld rfl rfl (yld_move rfl rfl) ?_
      refine TL.yld rfl rfl (yld_move rfl rfl) ?_
      obtain ⟨x8, hy9, hF⟩ := bsome hF
      refine TL.ye rfl rfl (ye_index (c := C_Clock) rfl Tryd.underlying26 cn_75 rfl rfl (slRep.old ha2 he4 (Nat.le_refl _)) hy9) ?_
      rintro _ ⟨b10, o11, us12, rfl, hib15, hr13, hcl14⟩
      have hib15 : 0 ≤ b10 ∧ b10 < w.heap.size := ⟨hib15.1, by have := hib15.2; omega⟩
      obtain rfl := C_Clock_open hr13
      refine TL.yld rfl rfl (yld_fieldAddr rfl fo_75_5 rfl) ?_
      refine TL.yld rfl rfl (yld_load1 5 rfl ag_2 rfl hcl14 rfl rfl) ?_
      refine TL.yld rfl rfl (yld_geq rfl rfl rfl) ?_
      refine TL.done ?_
      refine NX.seq ?_
      refine WC.cond rfl ?_ ?_
      · intro hc16
        replace hF := bif_t hc16 hF
        refine WC.skip' ?_
        refine NX.seq ?_
        refine WC.block ?_
        refine WC.region ?_
        refine TL.yld rfl rfl (yld_move rfl rfl) ?_
        refine TL.yld rfl rfl (yld_move rfl rfl) ?_
        obtain ⟨x17, hy18, hF⟩ := bsome hF
        refine TL.ye rfl rfl (ye_index (c := C_Clock) rfl Tryd.underlying26 cn_75 rfl rfl (slRep.old ha2 he4 (Nat.le_refl _)) hy18) ?_
        rintro _ ⟨b19, o20, us21, rfl, hib24, hr22, hcl23⟩
        have hib24 : 0 ≤ b19 ∧ b19 < w.heap.size := ⟨hib24.1, by have := hib24.2; omega⟩
        obtain rfl := C_Clock_open hr22
        refine TL.yld rfl rfl (yld_fieldAddr rfl fo_75_5 rfl) ?_
        refine TL.yld rfl rfl (yld_load1 5 rfl ag_2 rfl hcl23 rfl rfl) ?_
        refine TL.yld rfl rfl (yld_assign rfl rfl) ?_
        refine TL.done ?_
        refine NX.blk_n ?_
        refine NX.then_n ?_
        intro a hK; exact ⟨m6, Nat.lt_succ_self m6, x17.Source, hK.weaken ⟨rfl, rfl, trivial⟩, he4, (by omega), hF⟩
      · intro hc25
        replace hF := bif_f hc25 hF
        refine WC.exit' ?_
        refine NX.then_e ?_
        refine NX.then_e ?_
        refine NX.blk_hit ?_
        refine NX.seq ?_
        refine WC.seq ?_
        refine WC.region ?_
        refine TL.yld rfl rfl (yld_move rfl rfl) ?_
        refine TL.yld rfl rfl (yld_assign rfl rfl) ?_
        refine TL.done ?_
        refine NX.seq ?_
        refine WC.ret' ?_
        obtain rfl := Option.some.inj hF
        exact NX.end (rs := [.tmp 4]) (vs := [.int .i64 i5]) rfl ⟨rfl, trivial⟩ ⟨_, rfl, rfl, he4⟩

-- loop.example/g00861/impl.edgesOf
def F_impl_edgesOf (n : Nat) (a0_list : List S_Clock) (a1_a : Int) (a2_ea : Int) (a3_b : Int) (a4_eb : Int) : Option (S_edges × Int) := (Option.bind (F_impl_clockCode n a0_list ([a1_a, a3_b])) fun r23 => (bif (r23 != 0) then (some ((S_edges.mk ((S_wave.mk 0 ((A2_Int.mk 0 0)))) ((S_wave.mk 0 ((A2_Int.mk 0 0)))) 0 0 0), r23)) else (Option.bind (F_impl_isTransition n a2_ea) fun r36 => (Option.bind (bif (!r36) then (some true) else (Option.bind (F_impl_isTransition n a4_eb) fun r42 => (some (!r42)))) fun c42 => (bif c42 then (some ((S_edges.mk ((S_wave.mk 0 ((A2_Int.mk 0 0)))) ((S_wave.mk 0 ((A2_Int.mk 0 0)))) 0 0 0), 2)) else (Option.bind (F_impl_rootOf n a0_list a1_a) fun r62 => (Option.bind (F_impl_rootOf n a0_list a3_b) fun r68 => (bif (r62 != r68) then (some ((S_edges.mk ((S_wave.mk 0 ((A2_Int.mk 0 0)))) ((S_wave.mk 0 ((A2_Int.mk 0 0)))) 0 0 0), 5)) else (Option.bind (F_impl_waveOf n a0_list a1_a) fun r81 => (Option.bind (F_impl_waveOf n a0_list a3_b) fun r87 => (Option.bind (F_impl_hyperPeriod n a0_list a1_a a3_b) fun r93 => (Option.bind (bif decide (r93 > 100000000) then (some true) else (bif (r81.period_ == 0) then none else (some (decide (IntKind.wrap IntKind.i64 (Int.tdiv r93 r81.period_) > 200))))) fun c111 => (bif c111 then (some ((S_edges.mk ((S_wave.mk 0 ((A2_Int.mk 0 0)))) ((S_wave.mk 0 ((A2_Int.mk 0 0)))) 0 0 0), 3)) else (some ((S_edges.mk r81 r87 a2_ea a4_eb r93), 0)))))))))))))))
set_option maxHeartbeats 40000000 in
theorem W_impl_edgesOf {n : Nat} {a0_list : List S_Clock} {a1_a : Int} {a2_ea : Int} {a3_b : Int} {a4_eb : Int} {r : S_edges × Int} {w : World} {v1 : Value} (hF : F_impl_edgesOf n a0_list a1_a a2_ea a3_b a4_eb = some r) (ha2 : slRep C_Clock w (Iv 0 w.heap.size) a0_list v1) :
    Calls Tryd.prog 53 [v1, .int .i64 a1_a, .int .i64 a2_ea, .int .i64 a3_b, .int .i64 a4_eb].toArray w (Ret fun u w2 => u = .tuple #[.agg #[.int .i64 r.1.from_.period_, .int .i64 r.1.from_.edges_.e0, .int .i64 r.1.from_.edges_.e1, .int .i64 r.1.to_.period_, .int .i64 r.1.to_.edges_.e0, .int .i64 r.1.to_.edges_.e1, .int .i64 r.1.ea_, .int .i64 r.1.eb_, .int .i64 r.1.hyper_], .int .i64 r.2] ∧ Ext w w2) := by
  refine calls_of Tryd.func53 rfl Tryd.ntmps53 ?_
  have he0 : Ext w w := Ext.refl w
  unfold F_impl_edgesOf at hF
  refine WC.seq ?_
  refine WC.region ?_
  refine TL.eff rfl rfl (eff_alloc rfl zn_86) ?_
  rintro _ w4 ⟨b3, rfl, hn5⟩
  obtain ⟨hn5e, hn5s, hn5x, hb6⟩ := hn5
  have hb6 : Box w4 b3 [.int .i64 0, .int .i64 0, .int .i64 0, .int .i64 0, .int .i64 0, .int .i64 0, .int .i64 0, .int .i64 0, .int .i64 0] 86 := hb6
  have he8 : Ext w w4 := Ext.trans he0 hn5x
  have hz9 := (hn5x).size
  have hlo7 : w.heap.size ≤ b3 := by rw [hn5e]; exact (he0).size
  refine TL.yld rfl rfl (yld_assign rfl rfl) ?_
  refine TL.done ?_
  refine NX.seq ?_
  refine WC.seq ?_
  refine WC.region ?_
  refine TL.yld rfl rfl (yld_move rfl rfl) ?_
  refine TL.yld rfl rfl (yld_move rfl rfl) ?_
  refine TL.yld rfl rfl (yld_move rfl rfl) ?_
  refine TL.eff rfl rfl (eff_buildSlice (c := (cInt .i64)) (xs := [a1_a, a3_b]) (S := (Iv 0 0)) (uss := [(0, [.int .i64 a1_a]), (1, [.int .i64 a3_b])]) (out := [.int .i64 a1_a, .int .i64 a3_b]) rfl Tryd.underlying42 in_2 rfl rfl (fillL_all [[.int .i64 a1_a], [.int .i64 a3_b]] rfl rfl rfl) rfl rfl rfl rfl (one_rep (uss := [[.int .i64 a1_a], [.int .i64 a3_b]]) (show reps _ _ _ _ _ from ⟨rfl, rfl, trivial⟩) rfl) (fun k h => by have := h.2; omega) rfl) ?_
  rintro v10 w11 ⟨g12, hv13, hg14, hz15, hx16, hs17⟩
  have he18 : Ext w w11 := Ext.trans he8 hx16
  have hb6 := Box.ext hb6 hx16
  have hz19 := (hx16).size
  have hlo20 : w.heap.size ≤ g12 := by rw [hg14]; exact (he8).size
  have hbd21 := bd_of hv13
  clear hv13
  obtain ⟨r23, hr24, hF⟩ := bsome hF
  refine TL.eff rfl rfl (eff_call rfl gf_60 rfl (W_impl_clockCode hr24 ((slRep.old ha2 he18 (Nat.le_refl _)).wide (Nat.le_refl _) (he18).size) (ownR.slf hs17 (Nat.zero_le _) (Nat.le_refl _)))) ?_
  rintro _ w25 ⟨rfl, hx26⟩
  have he27 : Ext w w25 := Ext.trans he18 hx26
  have hb6 := Box.ext hb6 hx26
  have hs17 := ownR.ext hs17 hx26
  have hz28 := (hx26).size
  refine TL.yld rfl rfl (yld_assign rfl rfl) ?_
  refine TL.done ?_
  refine NX.seq ?_
  refine WC.seq ?_
  refine WC.block ?_
  refine WC.seq ?_
  refine WC.region ?_
  refine TL.yld rfl rfl (yld_move rfl rfl) ?_
  refine TL.yld rfl rfl (yld_neq rfl rfl rfl) ?_
  refine TL.yld rfl rfl (yld_assign rfl rfl) ?_
  refine TL.done ?_
  refine NX.seq ?_
  refine WC.cond rfl ?_ ?_
  · intro hc29
    replace hF := bif_t hc29 hF
    refine WC.seq ?_
    refine WC.region ?_
    refine TL.yld rfl rfl (yld_build (uss := []) (out := [.int .i64 0, .int .i64 0, .int .i64 0, .int .i64 0, .int .i64 0, .int .i64 0, .int .i64 0, .int .i64 0, .int .i64 0]) rfl rfl zn_86 pl_86 rfl rfl) ?_
    refine TL.yld rfl rfl (yld_move rfl rfl) ?_
    refine TL.eff rfl rfl (eff_store rfl rfl rfl hb6 cn_86 rfl rfl) ?_
    rintro _ w30 ⟨hu31, hb32⟩
    have he33 : Ext w w30 := Below.trans he27 (Upd.below hu31 (by omega))
    have hs17 := ownR.upd hs17 hu31 (fun g hg => by have := hbd21 g hg; omega)
    have hz34 := (hu31).size
    have hb6 : Box w30 b3 [.int .i64 0, .int .i64 0, .int .i64 0, .int .i64 0, .int .i64 0, .int .i64 0, .int .i64 0, .int .i64 0, .int .i64 0] 86 := hb32
    refine TL.yld rfl rfl (yld_assign rfl rfl) ?_
    refine TL.done ?_
    refine NX.seq ?_
    refine WC.ret' ?_
    refine NX.blk_r ?_
    refine NX.then_r ?_
    obtain rfl := Option.some.inj hF
    exact NX.end (rs := [.cell 10 86, .tmp 11]) (vs := [.agg #[.int .i64 0, .int .i64 0, .int .i64 0, .int .i64 0, .int .i64 0, .int .i64 0, .int .i64 0, .int .i64 0, .int .i64 0], .int .i64 r23]) rfl ⟨⟨b3, rfl, box_load ag_86 cn_86 hb6⟩, rfl, trivial⟩ ⟨_, rfl, rfl, he33⟩
  · intro hc35
    replace hF := bif_f hc35 hF
    refine WC.seq ?_
    refine WC.region ?_
    refine TL.yld rfl rfl (yld_move rfl rfl) ?_
    obtain ⟨r36, hr37, hF⟩ := bsome hF
    refine TL.eff rfl rfl (eff_call rfl gf_62 rfl (W_impl_isTransition hr37)) ?_
    rintro _ w38 ⟨rfl, hx39⟩
    have he40 : Ext w w38 := Ext.trans he27 hx39
    have hb6 := Box.ext hb6 hx39
    have hs17 := ownR.ext hs17 hx39
    have hz41 := (hx39).size
    refine TL.yld rfl rfl (yld_not rfl rfl) ?_
    refine TL.yld rfl rfl (yld_move rfl rfl) ?_
    obtain ⟨c42, hb43, hF⟩ := bsome hF
    refine TL.cut 4 [(0, v1), (1, .int .i64 a1_a), (2, .int .i64 a2_ea), (3, .int .i64 a3_b), (4, .int .i64 a4_eb), (10, .pointer (some ⟨b3, 0, none⟩)), (32, .bool c42)] (fun w' => Ext w38 w') ?_ ?_
    · rcases Bool.eq_false_or_eq_true (!r36) with hg44 | hg44
      ·
        rw [hg44] at hb43; simp only [cond_true, cond_false] at hb43
        refine TL.gnu (j := 3) (t := 28) rfl rfl rfl hg44 rfl ?_
        refine TL.gnu (j := 3) (t := 28) rfl rfl rfl hg44 rfl ?_
        refine TL.gnu (j := 3) (t := 28) rfl rfl rfl hg44 rfl ?_
        obtain rfl := Option.some.inj hb43
        refine TL.yld rfl rfl (yld_pick_t rfl rfl hg44 rfl) ?_
        exact TL.nil fun a h => ⟨h.weaken ⟨rfl, rfl, rfl, rfl, rfl, rfl, rfl, trivial⟩, Ext.refl _⟩
      ·
        rw [hg44] at hb43; simp only [cond_true, cond_false] at hb43
        replace hF := hb43
        refine TL.gy (j := 3) (t := 28) rfl rfl rfl hg44 rfl (yld_move rfl rfl) ?_
        obtain ⟨r45, hr46, hF⟩ := bsome hF
        refine TL.ge (j := 3) (t := 28) rfl rfl rfl hg44 rfl (eff_call rfl gf_62 rfl (W_impl_isTransition hr46)) ?_
        rintro _ w47 ⟨rfl, hx48⟩
        have he49 : Ext w w47 := Ext.trans he40 hx48
        have hb6 := Box.ext hb6 hx48
        have hs17 := ownR.ext hs17 hx48
        have hz50 := (hx48).size
        refine TL.gy (j := 3) (t := 28) rfl rfl rfl hg44 rfl (yld_not rfl rfl) ?_
        obtain rfl := Option.some.inj hF
        refine TL.yld rfl rfl (yld_pick_f rfl rfl hg44 rfl) ?_
        exact TL.nil fun a h => ⟨h.weaken ⟨rfl, rfl, rfl, rfl, rfl, rfl, rfl, trivial⟩, hx48⟩
    intro w51 hx52
    have he53 : Ext w w51 := Ext.trans he40 hx52
    have hb6 := Box.ext hb6 hx52
    have hs17 := ownR.ext hs17 hx52
    have hz54 := (hx52).size
    refine TL.yld rfl rfl (yld_assign rfl rfl) ?_
    refine TL.done ?_
    refine NX.seq ?_
    refine WC.cond rfl ?_ ?_
    · intro hc55
      replace hF := bif_t hc55 hF
      refine WC.seq ?_
      refine WC.region ?_
      refine TL.yld rfl rfl (yld_build (uss := []) (out := [.int .i64 0, .int .i64 0, .int .i64 0, .int .i64 0, .int .i64 0, .int .i64 0, .int .i64 0, .int .i64 0, .int .i64 0]) rfl rfl zn_86 pl_86 rfl rfl) ?_
      refine TL.eff rfl rfl (eff_store rfl rfl rfl hb6 cn_86 rfl rfl) ?_
      rintro _ w56 ⟨hu57, hb58⟩
      have he59 : Ext w w56 := Below.trans he53 (Upd.below hu57 (by omega))
      have hs17 := ownR.upd hs17 hu57 (fun g hg => by have := hbd21 g hg; omega)
      have hz60 := (hu57).size
      have hb6 : Box w56 b3 [.int .i64 0, .int .i64 0, .int .i64 0, .int .i64 0, .int .i64 0, .int .i64 0, .int .i64 0, .int .i64 0, .int .i64 0] 86 := hb58
      refine TL.yld rfl rfl (yld_assign rfl rfl) ?_
      refine TL.done ?_
      refine NX.seq ?_
      refine WC.ret' ?_
      refine NX.blk_r ?_
      refine NX.then_r ?_
      obtain rfl := Option.some.inj hF
      exact NX.end (rs := [.cell 10 86, .tmp 11]) (vs := [.agg #[.int .i64 0, .int .i64 0, .int .i64 0, .int .i64 0, .int .i64 0, .int .i64 0, .int .i64 0, .int .i64 0, .int .i64 0], .int .i64 2]) rfl ⟨⟨b3, rfl, box_load ag_86 cn_86 hb6⟩, rfl, trivial⟩ ⟨_, rfl, rfl, he59⟩
    · intro hc61
      replace hF := bif_f hc61 hF
      refine WC.seq ?_
      refine WC.region ?_
      refine TL.yld rfl rfl (yld_move rfl rfl) ?_
      refine TL.yld rfl rfl (yld_move rfl rfl) ?_
      obtain ⟨r62, hr63, hF⟩ := bsome hF
      refine TL.eff rfl rfl (eff_call rfl gf_97 rfl (W_impl_rootOf hr63 ((slRep.old ha2 he53 (Nat.le_refl _)).wide (Nat.le_refl _) (he53).size))) ?_
      rintro _ w64 ⟨rfl, hx65⟩
      have he66 : Ext w w64 := Ext.trans he53 hx65
      have hb6 := Box.ext hb6 hx65
      have hs17 := ownR.ext hs17 hx65
      have hz67 := (hx65).size
      refine TL.yld rfl rfl (yld_move rfl rfl) ?_
      refine TL.yld rfl rfl (yld_move rfl rfl) ?_
      obtain ⟨r68, hr69, hF⟩ := bsome hF
      refine TL.eff rfl rfl (eff_call rfl gf_97 rfl (W_impl_rootOf hr69 ((slRep.old ha2 he66 (Nat.le_refl _)).wide (Nat.le_refl _) (he66).size))) ?_
      rintro _ w70 ⟨rfl, hx71⟩
      have he72 : Ext w w70 := Ext.trans he66 hx71
      have hb6 := Box.ext hb6 hx71
      have hs17 := ownR.ext hs17 hx71
      have hz73 := (hx71).size
      refine TL.yld rfl rfl (yld_neq rfl rfl rfl) ?_
      refine TL.yld rfl rfl (yld_assign rfl rfl) ?_
      refine TL.done ?_
      refine NX.seq ?_
      refine WC.cond rfl ?_ ?_
      · intro hc74
        replace hF := bif_t hc74 hF
        refine WC.seq ?_
        refine WC.region ?_
        refine TL.yld rfl rfl (yld_build (uss := []) (out := [.int .i64 0, .int .i64 0, .int .i64 0, .int .i64 0, .int .i64 0, .int .i64 0, .int .i64 0, .int .i64 0, .int .i64 0]) rfl rfl zn_86 pl_86 rfl rfl) ?_
        refine TL.eff rfl rfl (eff_store rfl rfl rfl hb6 cn_86 rfl rfl) ?_
        rintro _ w75 ⟨hu76, hb77⟩
        have he78 : Ext w w75 := Below.trans he72 (Upd.below hu76 (by omega))
        have hs17 := ownR.upd hs17 hu76 (fun g hg => by have := hbd21 g hg; omega)
        have hz79 := (hu76).size
        have hb6 : Box w75 b3 [.int .i64 0, .int .i64 0, .int .i64 0, .int .i64 0, .int .i64 0, .int .i64 0, .int .i64 0, .int .i64 0, .int .i64 0] 86 := hb77
        refine TL.yld rfl rfl (yld_assign rfl rfl) ?_
        refine TL.done ?_
        refine NX.seq ?_
        refine WC.ret' ?_
        refine NX.blk_r ?_
        refine NX.then_r ?_
        obtain rfl := Option.some.inj hF
        exact NX.end (rs := [.cell 10 86, .tmp 11]) (vs := [.agg #[.int .i64 0, .int .i64 0, .int .i64 0, .int .i64 0, .int .i64 0, .int .i64 0, .int .i64 0, .int .i64 0, .int .i64 0], .int .i64 5]) rfl ⟨⟨b3, rfl, box_load ag_86 cn_86 hb6⟩, rfl, trivial⟩ ⟨_, rfl, rfl, he78⟩
      · intro hc80
        replace hF := bif_f hc80 hF
        refine WC.skip' ?_
        refine NX.blk_n ?_
        refine NX.seq ?_
        refine WC.seq ?_
        refine WC.region ?_
        refine TL.yld rfl rfl (yld_move rfl rfl) ?_
        refine TL.yld rfl rfl (yld_move rfl rfl) ?_
        obtain ⟨r81, hr82, hF⟩ := bsome hF
        refine TL.eff rfl rfl (eff_call rfl gf_64 rfl (W_impl_waveOf hr82 ((slRep.old ha2 he72 (Nat.le_refl _)).wide (Nat.le_refl _) (he72).size))) ?_
        rintro _ w83 ⟨rfl, hx84⟩
        have he85 : Ext w w83 := Ext.trans he72 hx84
        have hb6 := Box.ext hb6 hx84
        have hs17 := ownR.ext hs17 hx84
        have hz86 := (hx84).size
        refine TL.yld rfl rfl (yld_move rfl rfl) ?_
        refine TL.yld rfl rfl (yld_move rfl rfl) ?_
        obtain ⟨r87, hr88, hF⟩ := bsome hF
        refine TL.eff rfl rfl (eff_call rfl gf_64 rfl (W_impl_waveOf hr88 ((slRep.old ha2 he85 (Nat.le_refl _)).wide (Nat.le_refl _) (he85).size))) ?_
        rintro _ w89 ⟨rfl, hx90⟩
        have he91 : Ext w w89 := Ext.trans he85 hx90
        have hb6 := Box.ext hb6 hx90
        have hs17 := ownR.ext hs17 hx90
        have hz92 := (hx90).size
        refine TL.yld rfl rfl (yld_move rfl rfl) ?_
        refine TL.yld rfl rfl (yld_move rfl rfl) ?_
        refine TL.yld rfl rfl (yld_move rfl rfl) ?_
        refine TL.yld rfl rfl (yld_move rfl rfl) ?_
        refine TL.yld rfl rfl (yld_move rfl rfl) ?_
        obtain ⟨r93, hr94, hF⟩ := bsome hF
        refine TL.eff rfl rfl (eff_call rfl gf_61 rfl (W_impl_hyperPeriod hr94 ((slRep.old ha2 he91 (Nat.le_refl _)).wide (Nat.le_refl _) (he91).size))) ?_
        rintro _ w95 ⟨rfl, hx96⟩
        have he97 : Ext w w95 := Ext.trans he91 hx96
        have hb6 := Box.ext hb6 hx96
        have hs17 := ownR.ext hs17 hx96
        have hz98 := (hx96).size
        refine TL.yld rfl rfl (yld_build (uss := [(0, [.int .i64 r81.period_, .int .i64 r81.edges_.e0, .int .i64 r81.edges_.e1]), (1, [.int .i64 r87.period_, .int .i64 r87.edges_.e0, .int .i64 r87.edges_.e1]), (2, [.int .i64 a2_ea]), (3, [.int .i64 a4_eb]), (4, [.int .i64 r93])]) (out := [.int .i64 r81.period_, .int .i64 r81.edges_.e0, .int .i64 r81.edges_.e1, .int .i64 r87.period_, .int .i64 r87.edges_.e0, .int .i64 r87.edges_.e1, .int .i64 a2_ea, .int .i64 a4_eb, .int .i64 r93]) rfl rfl zn_86 pl_86 rfl rfl) ?_
        refine TL.eff rfl rfl (eff_alloc rfl zn_86) ?_
        rintro _ w100 ⟨b99, rfl, hn101⟩
        obtain ⟨hn101e, hn101s, hn101x, hb102⟩ := hn101
        have hb102 : Box w100 b99 [.int .i64 0, .int .i64 0, .int .i64 0, .int .i64 0, .int .i64 0, .int .i64 0, .int .i64 0, .int .i64 0, .int .i64 0] 86 := hb102
        have he104 : Ext w w100 := Ext.trans he97 hn101x
        have hb6 := Box.ext hb6 hn101x
        have hs17 := ownR.ext hs17 hn101x
        have hz105 := (hn101x).size
        have hlo103 : w.heap.size ≤ b99 := by rw [hn101e]; exact (he97).size
        refine TL.eff rfl rfl (eff_store rfl rfl rfl hb102 cn_86 rfl rfl) ?_
        rintro _ w106 ⟨hu107, hb108⟩
        have he109 : Ext w w106 := Below.trans he104 (Upd.below hu107 (by omega))
        have hb6 := Box.upd hb6 hu107 (by omega)
        have hs17 := ownR.upd hs17 hu107 (fun g hg => by have := hbd21 g hg; omega)
        have hz110 := (hu107).size
        have hb102 : Box w106 b99 [.int .i64 r81.period_, .int .i64 r81.edges_.e0, .int .i64 r81.edges_.e1, .int .i64 r87.period_, .int .i64 r87.edges_.e0, .int .i64 r87.edges_.e1, .int .i64 a2_ea, .int .i64 a4_eb, .int .i64 r93] 86 := hb108
        refine TL.done ?_
        refine NX.seq ?_
        refine WC.seq ?_
        refine WC.seq ?_
        refine WC.region ?_
        refine TL.yld rfl rfl (yld_fieldAddr rfl fo_86_4 rfl) ?_
        refine TL.yld rfl rfl (yld_load1 8 rfl ag_2 rfl (Box.cells hb102) rfl rfl) ?_
        refine TL.yld rfl rfl (yld_gtr rfl rfl rfl) ?_
        refine TL.yld rfl rfl (yld_move rfl rfl) ?_
        obtain ⟨c111, hb112, hF⟩ := bsome hF
        refine TL.cut 8 [(10, .pointer (some ⟨b3, 0, none⟩)), (13, .pointer (some ⟨b99, 0, none⟩)), (67, .bool c111)] (fun w' => Ext w106 w') ?_ ?_
        · rcases Bool.eq_false_or_eq_true (decide (r93 > 100000000)) with hg113 | hg113
          ·
            rw [hg113] at hb112; simp only [cond_true, cond_false] at hb112
            refine TL.gnu (j := 3) (t := 59) rfl rfl rfl hg113 rfl ?_
            refine TL.gnu (j := 3) (t := 59) rfl rfl rfl hg113 rfl ?_
            refine TL.gnu (j := 3) (t := 59) rfl rfl rfl hg113 rfl ?_
            refine TL.gnu (j := 3) (t := 59) rfl rfl rfl hg113 rfl ?_
            refine TL.gnu (j := 3) (t := 59) rfl rfl rfl hg113 rfl ?_
            refine TL.gnu (j := 3) (t := 59) rfl rfl rfl hg113 rfl ?_
            refine TL.gnu (j := 3) (t := 59) rfl rfl rfl hg113 rfl ?_
            obtain rfl := Option.some.inj hb112
            refine TL.yld rfl rfl (yld_pick_t rfl rfl hg113 rfl) ?_
            exact TL.nil fun a h => ⟨h.weaken ⟨rfl, rfl, rfl, trivial⟩, Ext.refl _⟩
          ·
            rw [hg113] at hb112; simp only [cond_true, cond_false] at hb112
            replace hF := hb112
            refine TL.gy (j := 3) (t := 59) rfl rfl rfl hg113 rfl (yld_fieldAddr rfl fo_86_4 rfl) ?_
            refine TL.gy (j := 3) (t := 59) rfl rfl rfl hg113 rfl (yld_load1 8 rfl ag_2 rfl (Box.cells hb102) rfl rfl) ?_
            refine TL.gy (j := 3) (t := 59) rfl rfl rfl hg113 rfl (yld_fieldAddr rfl fo_86_0 rfl) ?_
            refine TL.gy (j := 3) (t := 59) rfl rfl rfl hg113 rfl (yld_fieldAddr rfl fo_84_0 rfl) ?_
            refine TL.gy (j := 3) (t := 59) rfl rfl rfl hg113 rfl (yld_load1 0 rfl ag_2 rfl (Box.cells hb102) rfl rfl) ?_
            obtain ⟨hn114, hF⟩ := nzero hF
            refine TL.gy (j := 3) (t := 59) rfl rfl rfl hg113 rfl (yld_quo rfl rfl rfl hn114) ?_
            refine TL.gy (j := 3) (t := 59) rfl rfl rfl hg113 rfl (yld_gtr rfl rfl rfl) ?_
            obtain rfl := Option.some.inj hF
            refine TL.yld rfl rfl (yld_pick_f rfl rfl hg113 rfl) ?_
            exact TL.nil fun a h => ⟨h.weaken ⟨rfl, rfl, rfl, trivial⟩, Ext.refl _⟩
        intro w115 hx116
        have he117 : Ext w w115 := Ext.trans he109 hx116
        have hb6 := Box.ext hb6 hx116
        have hb102 := Box.ext hb102 hx116
        have hs17 := ownR.ext hs17 hx116
        have hz118 := (hx116).size
        refine TL.done ?_
        refine NX.seq ?_
        refine WC.cond rfl ?_ ?_
        · intro hc119
          replace hF := bif_t hc119 hF
          refine WC.seq ?_
          refine WC.region ?_
          refine TL.yld rfl rfl (yld_build (uss := []) (out := [.int .i64 0, .int .i64 0, .int .i64 0, .int .i64 0, .int .i64 0, .int .i64 0, .int .i64 0, .int .i64 0, .int .i64 0]) rfl rfl zn_86 pl_86 rfl rfl) ?_
          refine TL.eff rfl rfl (eff_store rfl rfl rfl hb6 cn_86 rfl rfl) ?_
          rintro _ w120 ⟨hu121, hb122⟩
          have he123 : Ext w w120 := Below.trans he117 (Upd.below hu121 (by omega))
          have hb102 := Box.upd hb102 hu121 (by omega)
          have hs17 := ownR.upd hs17 hu121 (fun g hg => by have := hbd21 g hg; omega)
          have hz124 := (hu121).size
          have hb6 : Box w120 b3 [.int .i64 0, .int .i64 0, .int .i64 0, .int .i64 0, .int .i64 0, .int .i64 0, .int .i64 0, .int .i64 0, .int .i64 0] 86 := hb122
          refine TL.yld rfl rfl (yld_assign rfl rfl) ?_
          refine TL.done ?_
          refine NX.seq ?_
          refine WC.ret' ?_
          refine NX.then_r ?_
          obtain rfl := Option.some.inj hF
          exact NX.end (rs := [.cell 10 86, .tmp 11]) (vs := [.agg #[.int .i64 0, .int .i64 0, .int .i64 0, .int .i64 0, .int .i64 0, .int .i64 0, .int .i64 0, .int .i64 0, .int .i64 0], .int .i64 3]) rfl ⟨⟨b3, rfl, box_load ag_86 cn_86 hb6⟩, rfl, trivial⟩ ⟨_, rfl, rfl, he123⟩
        · intro hc125
          replace hF := bif_f hc125 hF
          refine WC.skip' ?_
          refine NX.seq ?_
          refine WC.seq ?_
          refine WC.region ?_
          refine TL.yld rfl rfl (yld_loadN (us := [.int .i64 r81.period_, .int .i64 r81.edges_.e0, .int .i64 r81.edges_.e1, .int .i64 r87.period_, .int .i64 r87.edges_.e0, .int .i64 r87.edges_.e1, .int .i64 a2_ea, .int .i64 a4_eb, .int .i64 r93]) rfl ag_86 rfl (Box.cells hb102) cn_86) ?_
          refine TL.eff rfl rfl (eff_store rfl rfl rfl hb6 cn_86 rfl rfl) ?_
          rintro _ w126 ⟨hu127, hb128⟩
          have he129 : Ext w w126 := Below.trans he117 (Upd.below hu127 (by omega))
          have hb102 := Box.upd hb102 hu127 (by omega)
          have hs17 := ownR.upd hs17 hu127 (fun g hg => by have := hbd21 g hg; omega)
          have hz130 := (hu127).size
          have hb6 : Box w126 b3 [.int .i64 r81.period_, .int .i64 r81.edges_.e0, .int .i64 r81.edges_.e1, .int .i64 r87.period_, .int .i64 r87.edges_.e0, .int .i64 r87.edges_.e1, .int .i64 a2_ea, .int .i64 a4_eb, .int .i64 r93] 86 := hb128
          refine TL.yld rfl rfl (yld_assign rfl rfl) ?_
          refine TL.done ?_
          refine NX.seq ?_
          refine WC.ret' ?_
          obtain rfl := Option.some.inj hF
          exact NX.end (rs := [.cell 10 86, .tmp 11]) (vs := [.agg #[.int .i64 r81.period_, .int .i64 r81.edges_.e0, .int .i64 r81.edges_.e1, .int .i64 r87.period_, .int .i64 r87.edges_.e0, .int .i64 r87.edges_.e1, .int .i64 a2_ea, .int .i64 a4_eb, .int .i64 r93], .int .i64 0]) rfl ⟨⟨b3, rfl, box_load ag_86 cn_86 hb6⟩, rfl, trivial⟩ ⟨_, rfl, rfl, he129⟩

-- loop.example/g00861/impl.modulo
def F_impl_modulo (n : Nat) (a0_a : Int) (a1_b : Int) : Option Int := (bif (a1_b == 0) then none else (bif (a1_b == 0) then none else (some (Int.tmod (IntKind.wrap IntKind.i64 ((Int.tmod a0_a a1_b) + a1_b)) a1_b))))
set_option maxHeartbeats 40000000 in
theorem W_impl_modulo {n : Nat} {a0_a : Int} {a1_b : Int} {r : Int} {w : World} (hF : F_impl_modulo n a0_a a1_b = some r) :
    Calls Tryd.prog 104 [.int .i64 a0_a, .int .i64 a1_b].toArray w (Ret fun u w2 => u = .int .i64 r ∧ Ext w w2) := by
  refine calls_of Tryd.func104 rfl Tryd.ntmps104 ?_
  have he0 : Ext w w := Ext.refl w
  unfold F_impl_modulo at hF
  refine WC.seq ?_
  refine WC.region ?_
  refine TL.yld rfl rfl (yld_assign rfl rfl) ?_
  refine TL.done ?_
  refine NX.seq ?_
  refine WC.seq ?_
  refine WC.region ?_
  refine TL.yld rfl rfl (yld_move rfl rfl) ?_
  refine TL.yld rfl rfl (yld_move rfl rfl) ?_
  obtain ⟨hn1, hF⟩ := nzero hF
  refine TL.yld rfl rfl (yld_rem rfl rfl rfl hn1) ?_
  refine TL.yld rfl rfl (yld_move rfl rfl) ?_
  refine TL.yld rfl rfl (yld_add rfl rfl rfl) ?_
  refine TL.yld rfl rfl (yld_move rfl rfl) ?_
  obtain ⟨hn2, hF⟩ := nzero hF
  refine TL.yld rfl rfl (yld_rem rfl rfl rfl hn2) ?_
  refine TL.yld rfl rfl (yld_assign rfl rfl) ?_
  refine TL.done ?_
  refine NX.seq ?_
  refine WC.ret' ?_
  obtain rfl := Option.some.inj hF
  exact NX.end (rs := [.tmp 4]) (vs := [.int .i64 (Int.tmod (IntKind.wrap IntKind.i64 ((Int.tmod a0_a a1_b) + a1_b)) a1_b)]) rfl ⟨rfl, trivial⟩ ⟨_, rfl, rfl, he0⟩

-- (loop.example/g00861/impl.wave).next
def F_impl_wave_next (n : Nat) (a0_w : S_wave) (a1_edge : Int) (a2_time : Int) : Option Int := (Option.bind (getI ([a0_w.edges_.e0, a0_w.edges_.e1] : List Int) a1_edge) fun x8 => (Option.bind (F_impl_modulo n (IntKind.wrap IntKind.i64 (x8 - a2_time)) a0_w.period_) fun r10 => (some (IntKind.wrap IntKind.i64 (a2_time + r10)))))
set_option maxHeartbeats 40000000 in
theorem W_impl_wave_next {n : Nat} {a0_w : S_wave} {a1_edge : Int} {a2_time : Int} {r : Int} {w : World} (hF : F_impl_wave_next n a0_w a1_edge a2_time = some r) :
    Calls Tryd.prog 65 [.agg #[.int .i64 a0_w.period_, .int .i64 a0_w.edges_.e0, .int .i64 a0_w.edges_.e1], .int .i64 a1_edge, .int .i64 a2_time].toArray w (Ret fun u w2 => u = .int .i64 r ∧ Ext w w2) := by
  refine calls_of Tryd.func65 rfl Tryd.ntmps65 ?_
  have he0 : Ext w w := Ext.refl w
  unfold F_impl_wave_next at hF
  refine WC.seq ?_
  refine WC.region ?_
  refine TL.eff rfl rfl (eff_box rfl rfl) ?_
  rintro _ w2 ⟨b1, rfl, hn3⟩
  obtain ⟨hn3e, hn3s, hn3x, hb4⟩ := hn3
  have hb4 : Box w2 b1 [.int .i64 a0_w.period_, .int .i64 a0_w.edges_.e0, .int .i64 a0_w.edges_.e1] 84 := hb4
  have he6 : Ext w w2 := Ext.trans he0 hn3x
  have hz7 := (hn3x).size
  have hlo5 : w.heap.size ≤ b1 := by rw [hn3e]; exact (he0).size
  refine TL.yld rfl rfl (yld_assign rfl rfl) ?_
  refine TL.done ?_
  refine NX.seq ?_
  refine WC.seq ?_
  refine WC.quiet Tryd.hm (by kernel_rfl) ?_
  refine QL.yld rfl rfl (Yld.qui (yld_move rfl rfl)) ?_
  refine QL.yld rfl rfl (Yld.qui (yld_move rfl rfl)) ?_
  refine QL.yld rfl rfl (Yld.qui (yld_fieldAddr rfl fo_84_1 rfl)) ?_
  obtain ⟨x8, hy9, hF⟩ := bsome hF
  refine QL.yld rfl rfl (Yld.qui (yld_indexArr rfl Tryd.underlying82 cn_2 rfl rfl (getI_rng hy9))) ?_
  refine QL.yld rfl rfl (Yld.qui (yld_loadI 1 [a0_w.edges_.e0, a0_w.edges_.e1] rfl ag_2 rfl (Box.cells hb4) (by omega) rfl hy9)) ?_
  refine QL.yld rfl rfl (Yld.qui (yld_move rfl rfl)) ?_
  refine QL.yld rfl rfl (Yld.qui (yld_sub rfl rfl rfl)) ?_
  refine QL.yld rfl rfl (Yld.qui (yld_fieldAddr rfl fo_84_0 rfl)) ?_
  refine QL.yld rfl rfl (Yld.qui (yld_load1 0 rfl ag_2 rfl (Box.cells hb4) rfl rfl)) ?_
  obtain ⟨r10, hr11, hF⟩ := bsome hF
  refine QL.yld rfl rfl (qui_call rfl gf_104 rfl fun w' hw' => W_impl_modulo hr11) ?_
  refine QL.yld rfl rfl (Yld.qui (yld_add rfl rfl rfl)) ?_
  refine QL.yld rfl rfl (Yld.qui (yld_assign rfl rfl)) ?_
  refine QL.done fun w12 hx13 => ?_
  have he14 : Ext w w12 := Ext.trans he6 hx13
  have hb4 := Box.ext hb4 hx13
  have hz15 := (hx13).size
  refine NX.seq ?_
  refine WC.ret' ?_
  obtain rfl := Option.some.inj hF
  exact NX.end (rs := [.tmp 6]) (vs := [.int .i64 (IntKind.wrap IntKind.i64 (a2_time + r10))]) rfl ⟨rfl, trivial⟩ ⟨_, rfl, rfl, he14⟩

-- (loop.example/g00861/impl.edges).pairs
def F_impl_edges_pairs_L1 (n : Nat) (a0_x : S_edges) (k0 : (List (List Int)) → Int → Option (List (List Int))) : Nat → (List (List Int)) → Int → Option (List (List Int))
  | 0 => fun _ _ => none
  | m + 1 => fun l15 i19 => (bif decide (i19 < a0_x.hyper_) then (Option.bind (F_impl_wave_next n a0_x.to_ a0_x.eb_ (IntKind.wrap IntKind.i64 (i19 + 1))) fun r23 => (Option.bind (appN l15 ([[i19, r23]]) 24) fun z55 => (F_impl_edges_pairs_L1 n a0_x k0 m z55 (IntKind.wrap IntKind.i64 (i19 + a0_x.from_.period_))))) else (k0 l15 i19))
theorem F_impl_edges_pairs_L1_z (n : Nat) (a0_x : S_edges) (k0 : (List (List Int)) → Int → Option (List (List Int))) (l15 : List (List Int)) (i19 : Int) : F_impl_edges_pairs_L1 n a0_x k0 0 l15 i19 = none := rfl
theorem F_impl_edges_pairs_L1_s (m : Nat) (n : Nat) (a0_x : S_edges) (k0 : (List (List Int)) → Int → Option (List (List Int))) (l15 : List (List Int)) (i19 : Int) : F_impl_edges_pairs_L1 n a0_x k0 (m + 1) l15 i19 = (bif decide (i19 < a0_x.hyper_) then (Option.bind (F_impl_wave_next n a0_x.to_ a0_x.eb_ (IntKind.wrap IntKind.i64 (i19 + 1))) fun r23 => (Option.bind (appN l15 ([[i19, r23]]) 24) fun z55 => (F_impl_edges_pairs_L1 n a0_x k0 m z55 (IntKind.wrap IntKind.i64 (i19 + a0_x.from_.period_))))) else (k0 l15 i19)) := rfl

def F_impl_edges_pairs (n : Nat) (a0_x : S_edges) : Option (List (List Int)) := (Option.bind (getI ([a0_x.from_.edges_.e0, a0_x.from_.edges_.e1] : List Int) a0_x.ea_) fun x8 => (F_impl_edges_pairs_L1 n a0_x (fun l15 i19 => (some l15)) n (([] : List (List Int))) x8))
set_option maxHeartbeats 40000000 in
theorem W_impl_edges_pairs {n : Nat} {a0_x : S_edges} {r : List (List Int)} {w : World} (hF : F_impl_edges_pairs n a0_x = some r) :
    Calls Tryd.prog 59 [.agg #[.int .i64 a0_x.from_.period_, .int .i64 a0_x.from_.edges_.e0, .int .i64 a0_x.from_.edges_.e1, .int .i64 a0_x.to_.period_, .int .i64 a0_x.to_.edges_.e0, .int .i64 a0_x.to_.edges_.e1, .int .i64 a0_x.ea_, .int .i64 a0_x.eb_, .int .i64 a0_x.hyper_]].toArray w (Ret fun u w2 => ∃ v0_0, u = v0_0 ∧ ownR (cSl (cInt .i64)) w2 w.heap.size (SX w.heap.size w2.heap.size v0_0) 42 r v0_0 ∧ Ext w w2) := by
  refine calls_of Tryd.func59 rfl Tryd.ntmps59 ?_
  have he0 : Ext w w := Ext.refl w
  unfold F_impl_edges_pairs at hF
  refine WC.seq ?_
  refine WC.region ?_
  refine TL.eff rfl rfl (eff_box rfl rfl) ?_
  rintro _ w2 ⟨b1, rfl, hn3⟩
  obtain ⟨hn3e, hn3s, hn3x, hb4⟩ := hn3
  have hb4 : Box w2 b1 [.int .i64 a0_x.from_.period_, .int .i64 a0_x.from_.edges_.e0, .int .i64 a0_x.from_.edges_.e1, .int .i64 a0_x.to_.period_, .int .i64 a0_x.to_.edges_.e0, .int .i64 a0_x.to_.edges_.e1, .int .i64 a0_x.ea_, .int .i64 a0_x.eb_, .int .i64 a0_x.hyper_] 86 := hb4
  have he6 : Ext w w2 := Ext.trans he0 hn3x
  have hz7 := (hn3x).size
  have hlo5 : w.heap.size ≤ b1 := by rw [hn3e]; exact (he0).size
  refine TL.yld rfl rfl (yld_assign rfl rfl) ?_
  refine TL.done ?_
  refine NX.seq ?_
  refine WC.seq ?_
  refine WC.region ?_
  refine TL.yld rfl rfl (yld_assign rfl rfl) ?_
  refine TL.done ?_
  refine NX.seq ?_
  refine WC.seq ?_
  refine WC.seq ?_
  refine WC.region ?_
  refine TL.yld rfl rfl (yld_fieldAddr rfl fo_86_2 rfl) ?_
  refine TL.yld rfl rfl (yld_load1 6 rfl ag_2 rfl (Box.cells hb4) rfl rfl) ?_
  refine TL.yld rfl rfl (yld_fieldAddr rfl fo_86_0 rfl) ?_
  refine TL.yld rfl rfl (yld_fieldAddr rfl fo_84_1 rfl) ?_
  obtain ⟨x8, hy9, hF⟩ := bsome hF
  refine TL.yld rfl rfl (yld_indexArr rfl Tryd.underlying82 cn_2 rfl rfl (getI_rng hy9)) ?_
  refine TL.yld rfl rfl (yld_loadI 1 [a0_x.from_.edges_.e0, a0_x.from_.edges_.e1] rfl ag_2 rfl (Box.cells hb4) (by omega) rfl hy9) ?_
  refine TL.yld rfl rfl (yld_assign rfl rfl) ?_
  refine TL.done ?_
  refine NX.seq ?_
  refine WC.block ?_
  have hs12 : ownR (cSl (cInt .i64)) w2 (w2.heap.size) (SX (w2.heap.size) (w2.heap.size) (.slice none 0 0)) 42 [] (.slice none 0 0) := ownR.nil _ _ _ _ _
  have hbd13 : ∀ q, (Value.slice none 0 0).ownBlock = some q → w2.heap.size ≤ q ∧ q < w2.heap.size := bd_nil
  refine WC.loop (fun m22 a wl => ∃ (l15 : List (List Int)) (v16 : Value) (i19 : Int), Kn 33 [(1, .pointer (some ⟨b1, 0, none⟩)), (3, v16), (4, .int .i64 i19)] a ∧ Ext w wl ∧ w2.heap.size ≤ wl.heap.size ∧ Box wl b1 [.int .i64 a0_x.from_.period_, .int .i64 a0_x.from_.edges_.e0, .int .i64 a0_x.from_.edges_.e1, .int .i64 a0_x.to_.period_, .int .i64 a0_x.to_.edges_.e0, .int .i64 a0_x.to_.edges_.e1, .int .i64 a0_x.ea_, .int .i64 a0_x.eb_, .int .i64 a0_x.hyper_] 86 ∧ ownR (cSl (cInt .i64)) wl (w2.heap.size) (SX (w2.heap.size) wl.heap.size v16) 42 l15 v16 ∧ (∀ q, v16.ownBlock = some q → w2.heap.size ≤ q ∧ q < wl.heap.size) ∧ (∀ g, v16.ownBlock = some g → g ≠ b1) ∧ F_impl_edges_pairs_L1 n a0_x (fun l15 i19 => (some l15)) m22 l15 i19 = some r) n ?_ ?_
  · intro a hK; exact ⟨(([] : List (List Int))), ((.slice none 0 0)), x8, hK.weaken ⟨rfl, rfl, rfl, trivial⟩, he6, Nat.le_refl _, hb4, (ownR.wideN hs12 (by omega)), (fun g hg => by have := hbd13 g hg; omega), (fun g hg => by have := hbd13 g hg; omega), hF⟩
  · rintro m22 a w10 ⟨l15, v16, i19, hK, he11, hz23, hb20, hs17, hbd18, hp21, hF⟩
    revert hK; revert a; refine (?_ : WC _ _ _ _ _ _)
    cases m22 with
    | zero => rw [F_impl_edges_pairs_L1_z] at hF; cases hF
    | succ m22 =>
      rw [F_impl_edges_pairs_L1_s] at hF
      refine WC.seq ?_
      refine WC.seq ?_
      refine WC.region ?_
      refine TL.yld rfl rfl (yld_move rfl rfl) ?_
      refine TL.yld rfl rfl (yld_fieldAddr rfl fo_86_4 rfl) ?_
      refine TL.yld rfl rfl (yld_load1 8 rfl ag_2 rfl (Box.cells hb20) rfl rfl) ?_
      refine TL.yld rfl rfl (yld_lss rfl rfl rfl) ?_
      refine TL.done ?_
      refine NX.seq ?_
      refine WC.cond rfl ?_ ?_
      · intro hc24
        replace hF := bif_t hc24 hF
        refine WC.skip' ?_
        refine NX.seq ?_
        refine WC.seq ?_
        refine WC.block ?_
        refine WC.region ?_
        refine TL.yld rfl rfl (yld_move rfl rfl) ?_
        refine TL.yld rfl rfl (yld_move rfl rfl) ?_
        refine TL.yld rfl rfl (yld_fieldAddr rfl fo_86_1 rfl) ?_
        refine TL.yld rfl rfl (yld_loadN (us := [.int .i64 a0_x.to_.period_, .int .i64 a0_x.to_.edges_.e0, .int .i64 a0_x.to_.edges_.e1]) rfl ag_84 rfl (CellsAt.sub (Box.cells hb20) 3 3 : CellsAt _ _ _ [.int .i64 a0_x.to_.period_, .int .i64 a0_x.to_.edges_.e0, .int .i64 a0_x.to_.edges_.e1]) cn_84) ?_
        refine TL.yld rfl rfl (yld_fieldAddr rfl fo_86_3 rfl) ?_
        refine TL.yld rfl rfl (yld_load1 7 rfl ag_2 rfl (Box.cells hb20) rfl rfl) ?_
        refine TL.yld rfl rfl (yld_move rfl rfl) ?_
        refine TL.yld rfl rfl (yld_add rfl rfl rfl) ?_
        obtain ⟨r25, hr26, hF⟩ := bsome hF
        refine TL.eff rfl rfl (eff_call rfl gf_65 rfl (W_impl_wave_next hr26)) ?_
        rintro _ w27 ⟨rfl, hx28⟩
        have he29 : Ext w w27 := Ext.trans he11 hx28
        have hb20 := Box.ext hb20 hx28
        have hs17 := ownR.extN hs17 hx28 (by omega)
        have hz30 := (hx28).size
        refine TL.eff rfl rfl (eff_buildSlice (c := (cInt .i64)) (xs := [i19, r25]) (S := (Iv 0 0)) (uss := [(0, [.int .i64 i19]), (1, [.int .i64 r25])]) (out := [.int .i64 i19, .int .i64 r25]) rfl Tryd.underlying42 in_2 rfl rfl (fillL_all [[.int .i64 i19], [.int .i64 r25]] rfl rfl rfl) rfl rfl rfl rfl (one_rep (uss := [[.int .i64 i19], [.int .i64 r25]]) (show reps _ _ _ _ _ from ⟨rfl, rfl, trivial⟩) rfl) (fun k h => by have := h.2; omega) rfl) ?_
        rintro v31 w32 ⟨g33, hv34, hg35, hz36, hx37, hs38⟩
        have he39 : Ext w w32 := Ext.trans he29 hx37
        have hb20 := Box.ext hb20 hx37
        have hs17 := ownR.extN hs17 hx37 (by omega)
        have hz40 := (hx37).size
        have hlo41 : w.heap.size ≤ g33 := by rw [hg35]; exact (he29).size
        have hbd42 := bd_of hv34
        clear hv34
        refine TL.eff rfl rfl (eff_buildSlice (c := (cSl (cInt .i64))) (xs := [[i19, r25]]) (S := (Iv g33 w32.heap.size)) (uss := [(0, [v31])]) (out := [v31]) rfl Tryd.underlying38 in_42 rfl (pt_cons (slRep.cl (ownR.slf hs38 (Nat.le_refl _) (Nat.le_refl _))) rfl) (fillL_all [[v31]] rfl rfl rfl) rfl rfl rfl rfl (one_rep (uss := [[v31]]) (show reps _ _ _ _ _ from ⟨⟨_, rfl, ((ownR.slf hs38 (Nat.le_refl _) (Nat.le_refl _)).wide (by omega) (by omega))⟩, trivial⟩) rfl) (fun k h => by have := h.2; omega) rfl) ?_
        rintro v44 w45 ⟨g46, hv47, hg48, hz49, hx50, hs51⟩
        have he52 : Ext w w45 := Ext.trans he39 hx50
        have hb20 := Box.ext hb20 hx50
        have hs17 := ownR.extN hs17 hx50 (by omega)
        have hs38 := ownR.ext hs38 hx50
        have hz53 := (hx50).size
        have hlo54 : w.heap.size ≤ g46 := by rw [hg48]; exact (he39).size
        have hs51 := ownR.litN hs51 hv47 (by omega) (by omega)
        have hbd55 := bd_of hv47
        clear hv47
        obtain ⟨z57, ha58, hF⟩ := bsome hF
        refine TL.eff rfl rfl (eff_appendN (c := (cSl (cInt .i64))) rfl Tryd.underlying38 in_42 rfl rfl rfl rfl rfl hs17 (by omega) (by omega) (ownR.slN hs51 (Nat.le_refl _) (Nat.le_refl _) (by omega)) (by omega) (by omega) (fun g hg => by have := hbd18 g hg; omega) ha58) ?_
        rintro v59 w60 ⟨hs61, hgr62⟩
        have he64 : Ext w w60 := Below.trans he52 (Grew.low hgr62 (fun g hg => by have := hbd18 g hg; omega) (he52).size)
        have hp65 : ∀ g, v59.ownBlock = some g → g ≠ b1 := Grew.sepP (p := fun g => g ≠ b1) hgr62 hp21 (fun g hg => by omega)
        have hb20 := Grew.box hgr62 hb20 hp21
        have hp66 : ∀ g q, v16.ownBlock = some g → v31.ownBlock = some q → g ≠ q := (fun g q hg hq => by have := hbd18 g hg; have := hbd42 q hq; omega)
        have hp67 : ∀ g q, v59.ownBlock = some g → v31.ownBlock = some q → g ≠ q := fun g q hg hq => Grew.sepP (p := fun g => ∀ q, v31.ownBlock = some q → g ≠ q) hgr62 (fun g hg q hq => (hp66) g q hg hq) (fun g hg q hq => by have := hbd42 q hq; omega) g hg q hq
        have hs38 := Grew.ownF hgr62 hs38 hp66
        have hp68 : ∀ g q, v16.ownBlock = some g → v44.ownBlock = some q → g ≠ q := (fun g q hg hq => by have := hbd18 g hg; have := hbd55 q hq; omega)
        have hp69 : ∀ g q, v59.ownBlock = some g → v44.ownBlock = some q → g ≠ q := fun g q hg hq => Grew.sepP (p := fun g => ∀ q, v44.ownBlock = some q → g ≠ q) hgr62 (fun g hg q hq => (hp68) g q hg hq) (fun g hg q hq => by have := hbd55 q hq; omega) g hg q hq
        have hs51 := Grew.ownN hgr62 hs51 hp68 (by omega) (fun g hg => by have := hbd18 g hg; omega)
        have hz70 := (hgr62).1.size
        have hbd71 : ∀ g, v59.ownBlock = some g → w2.heap.size ≤ g ∧ g < w60.heap.size := Grew.bd hgr62 hs61 (fun g hg => ⟨by have := hbd18 g hg; omega, (hbd18 g hg).2⟩) (by omega) (by omega)
        refine TL.yld rfl rfl (yld_assign rfl rfl) ?_
        refine TL.done ?_
        refine NX.blk_n ?_
        refine NX.seq ?_
        refine WC.region ?_
        refine TL.yld rfl rfl (yld_move rfl rfl) ?_
        refine TL.yld rfl rfl (yld_fieldAddr rfl fo_86_0 rfl) ?_
        refine TL.yld rfl rfl (yld_fieldAddr rfl fo_84_0 rfl) ?_
        refine TL.yld rfl rfl (yld_load1 0 rfl ag_2 rfl (Box.cells hb20) rfl rfl) ?_
        refine TL.yld rfl rfl (yld_add rfl rfl rfl) ?_
        refine TL.yld rfl rfl (yld_assign rfl rfl) ?_
        refine TL.done ?_
        refine NX.then_n ?_
        intro a hK; exact ⟨m22, Nat.lt_succ_self m22, z57, v59, (IntKind.wrap IntKind.i64 (i19 + a0_x.from_.period_)), hK.weaken ⟨rfl, rfl, rfl, trivial⟩, he64, (by omega), hb20, (ownR.wideN hs61 (by omega)), (fun g hg => by have := hbd71 g hg; omega), hp65, hF⟩
      · intro hc72
        replace hF := bif_f hc72 hF
        refine WC.exit' ?_
        refine NX.then_e ?_
        refine NX.then_e ?_
        refine NX.blk_hit ?_
        refine NX.seq ?_
        refine WC.seq ?_
        refine WC.region ?_
        refine TL.yld rfl rfl (yld_move rfl rfl) ?_
        refine TL.yld rfl rfl (yld_assign rfl rfl) ?_
        refine TL.done ?_
        refine NX.seq ?_
        refine WC.ret' ?_
        obtain rfl := Option.some.inj hF
        exact NX.end (rs := [.tmp 2]) (vs := [v16]) rfl ⟨rfl, trivial⟩ ⟨_, rfl, _, rfl, ownR.baseN (ownR.wideN hs17 (by omega)) (by omega), he11⟩

-- loop.example/g00861/impl.EdgePairs
def F_impl_EdgePairs (n : Nat) (a0_list : List S_Clock) (a1_a : Int) (a2_ea : Int) (a3_b : Int) (a4_eb : Int) : Option ((List (List Int)) × Int) := (Option.bind (F_impl_edgesOf n a0_list a1_a a2_ea a3_b a4_eb) fun r3 => (bif (r3.2 != 0) then (some (([] : List (List Int)), r3.2)) else (Option.bind (F_impl_edges_pairs n r3.1) fun r23 => (some (r23, 0)))))
set_option maxHeartbeats 40000000 in
theorem W_impl_EdgePairs {n : Nat} {a0_list : List S_Clock} {a1_a : Int} {a2_ea : Int} {a3_b : Int} {a4_eb : Int} {r : (List (List Int)) × Int} {w : World} {v1 : Value} (hF : F_impl_EdgePairs n a0_list a1_a a2_ea a3_b a4_eb = some r) (ha2 : slRep C_Clock w (Iv 0 w.heap.size) a0_list v1) :
    Calls Tryd.prog 25 [v1, .int .i64 a1_a, .int .i64 a2_ea, .int .i64 a3_b, .int .i64 a4_eb].toArray w (Ret fun u w2 => ∃ v0_0, u = .tuple #[v0_0, .int .i64 r.2] ∧ ownR (cSl (cInt .i64)) w2 w.heap.size (SX w.heap.size w2.heap.size v0_0) 42 r.1 v0_0 ∧ Ext w w2) := by
  refine calls_of Tryd.func25 rfl Tryd.ntmps25 ?_
  have he0 : Ext w w := Ext.refl w
  unfold F_impl_EdgePairs at hF
  refine WC.seq ?_
  refine WC.region ?_
  refine TL.yld rfl rfl (yld_assign rfl rfl) ?_
  refine TL.yld rfl rfl (yld_assign rfl rfl) ?_
  refine TL.done ?_
  refine NX.seq ?_
  refine WC.seq ?_
  refine WC.region ?_
  refine TL.yld rfl rfl (yld_move rfl rfl) ?_
  refine TL.yld rfl rfl (yld_move rfl rfl) ?_
  refine TL.yld rfl rfl (yld_move rfl rfl) ?_
  refine TL.yld rfl rfl (yld_move rfl rfl) ?_
  refine TL.yld rfl rfl (yld_move rfl rfl) ?_
  obtain ⟨r3, hr4, hF⟩ := bsome hF
  refine TL.eff rfl rfl (eff_call rfl gf_53 rfl (W_impl_edgesOf hr4 ((slRep.old ha2 he0 (Nat.le_refl _)).wide (Nat.le_refl _) (he0).size))) ?_
  rintro _ w5 ⟨rfl, hx6⟩
  have he7 : Ext w w5 := Ext.trans he0 hx6
  have hz8 := (hx6).size
  refine TL.yld rfl rfl (yld_move rfl rfl) ?_
  refine TL.yld rfl rfl (yld_extract rfl rfl rfl) ?_
  refine TL.yld rfl rfl (yld_extract rfl rfl rfl) ?_
  refine TL.eff rfl rfl (eff_alloc rfl zn_86) ?_
  rintro _ w10 ⟨b9, rfl, hn11⟩
  obtain ⟨hn11e, hn11s, hn11x, hb12⟩ := hn11
  have hb12 : Box w10 b9 [.int .i64 0, .int .i64 0, .int .i64 0, .int .i64 0, .int .i64 0, .int .i64 0, .int .i64 0, .int .i64 0, .int .i64 0] 86 := hb12
  have he14 : Ext w w10 := Ext.trans he7 hn11x
  have hz15 := (hn11x).size
  have hlo13 : w.heap.size ≤ b9 := by rw [hn11e]; exact (he7).size
  refine TL.eff rfl rfl (eff_store rfl rfl rfl hb12 cn_86 rfl rfl) ?_
  rintro _ w16 ⟨hu17, hb18⟩
  have he19 : Ext w w16 := Below.trans he14 (Upd.below hu17 (by omega))
  have hz20 := (hu17).size
  have hb12 : Box w16 b9 [.int .i64 r3.1.from_.period_, .int .i64 r3.1.from_.edges_.e0, .int .i64 r3.1.from_.edges_.e1, .int .i64 r3.1.to_.period_, .int .i64 r3.1.to_.edges_.e0, .int .i64 r3.1.to_.edges_.e1, .int .i64 r3.1.ea_, .int .i64 r3.1.eb_, .int .i64 r3.1.hyper_] 86 := hb18
  refine TL.yld rfl rfl (yld_assign rfl rfl) ?_
  refine TL.done ?_
  refine NX.seq ?_
  refine WC.seq ?_
  refine WC.seq ?_
  refine WC.region ?_
  refine TL.yld rfl rfl (yld_move rfl rfl) ?_
  refine TL.yld rfl rfl (yld_neq rfl rfl rfl) ?_
  refine TL.done ?_
  refine NX.seq ?_
  refine WC.cond rfl ?_ ?_
  · intro hc21
    replace hF := bif_t hc21 hF
    refine WC.seq ?_
    refine WC.region ?_
    refine TL.yld rfl rfl (yld_move rfl rfl) ?_
    refine TL.yld rfl rfl (yld_assign rfl rfl) ?_
    refine TL.yld rfl rfl (yld_assign rfl rfl) ?_
    refine TL.done ?_
    refine NX.seq ?_
    refine WC.ret' ?_
    refine NX.then_r ?_
    obtain rfl := Option.some.inj hF
    exact NX.end (rs := [.tmp 10, .tmp 11]) (vs := [.slice none 0 0, .int .i64 r3.2]) rfl ⟨rfl, rfl, trivial⟩ ⟨_, rfl, _, rfl, ownR.nil _ _ _ _ _, he19⟩
  · intro hc22
    replace hF := bif_f hc22 hF
    refine WC.skip' ?_
    refine NX.seq ?_
    refine WC.seq ?_
    refine WC.region ?_
    refine TL.yld rfl rfl (yld_loadN (us := [.int .i64 r3.1.from_.period_, .int .i64 r3.1.from_.edges_.e0, .int .i64 r3.1.from_.edges_.e1, .int .i64 r3.1.to_.period_, .int .i64 r3.1.to_.edges_.e0, .int .i64 r3.1.to_.edges_.e1, .int .i64 r3.1.ea_, .int .i64 r3.1.eb_, .int .i64 r3.1.hyper_]) rfl ag_86 rfl (Box.cells hb12) cn_86) ?_
    obtain ⟨r23, hr24, hF⟩ := bsome hF
    refine TL.eff rfl rfl (eff_call rfl gf_59 rfl (W_impl_edges_pairs hr24)) ?_
    rintro v27 w25 ⟨_, rfl, hs28, hx26⟩
    have he31 : Ext w w25 := Ext.trans he19 hx26
    have hb12 := Box.ext hb12 hx26
    have hz32 := (hx26).size
    have hbd30 := ownR.blk hs28
    refine TL.yld rfl rfl (yld_assign rfl rfl) ?_
    refine TL.yld rfl rfl (yld_assign rfl rfl) ?_
    refine TL.done ?_
    refine NX.seq ?_
    refine WC.ret' ?_
    obtain rfl := Option.some.inj hF
    exact NX.end (rs := [.tmp 10, .tmp 11]) (vs := [v27, .int .i64 0]) rfl ⟨rfl, rfl, trivial⟩ ⟨_, rfl, _, rfl, ownR.baseN (ownR.wideN hs28 (by omega)) (by omega), he31⟩

-- loop.example/g00861/spec.l14Of
def F_spec_l14Of : Nat → (List S_Clock) → Int → Option S_l14Wave
  | 0 => fun _ _ => none
  | n + 1 => fun a0_list a1_k => (Option.bind (getI a0_list a1_k) fun x10 => (bif decide (x10.Source < 0) then (some ((S_l14Wave.mk x10.Period x10.RiseAt x10.FallAt))) else (Option.bind (F_spec_l14Of n a0_list x10.Source) fun r37 => (bif decide (x10.Divide > 1) then (bif x10.Invert then (some ((S_l14Wave.mk (IntKind.wrap IntKind.i64 (r37.period_ * x10.Divide)) (IntKind.wrap IntKind.i64 (r37.rise_ + (IntKind.wrap IntKind.i64 ((IntKind.wrap IntKind.i64 (Int.tdiv x10.Divide 2)) * r37.period_)))) r37.rise_))) else (some ((S_l14Wave.mk (IntKind.wrap IntKind.i64 (r37.period_ * x10.Divide)) r37.rise_ (IntKind.wrap IntKind.i64 (r37.rise_ + (IntKind.wrap IntKind.i64 ((IntKind.wrap IntKind.i64 (Int.tdiv x10.Divide 2)) * r37.period_)))))))) else (bif x10.Invert then (some ((S_l14Wave.mk r37.period_ r37.fall_ r37.rise_))) else (some r37))))))
theorem F_spec_l14Of_z (a0_list : List S_Clock) (a1_k : Int) : F_spec_l14Of 0 a0_list a1_k = none := rfl
theorem F_spec_l14Of_s (n : Nat) (a0_list : List S_Clock) (a1_k : Int) : F_spec_l14Of (n + 1) a0_list a1_k = (Option.bind (getI a0_list a1_k) fun x10 => (bif decide (x10.Source < 0) then (some ((S_l14Wave.mk x10.Period x10.RiseAt x10.FallAt))) else (Option.bind (F_spec_l14Of n a0_list x10.Source) fun r37 => (bif decide (x10.Divide > 1) then (bif x10.Invert then (some ((S_l14Wave.mk (IntKind.wrap IntKind.i64 (r37.period_ * x10.Divide)) (IntKind.wrap IntKind.i64 (r37.rise_ + (IntKind.wrap IntKind.i64 ((IntKind.wrap IntKind.i64 (Int.tdiv x10.Divide 2)) * r37.period_)))) r37.rise_))) else (some ((S_l14Wave.mk (IntKind.wrap IntKind.i64 (r37.period_ * x10.Divide)) r37.rise_ (IntKind.wrap IntKind.i64 (r37.rise_ + (IntKind.wrap IntKind.i64 ((IntKind.wrap IntKind.i64 (Int.tdiv x10.Divide 2)) * r37.period_)))))))) else (bif x10.Invert then (some ((S_l14Wave.mk r37.period_ r37.fall_ r37.rise_))) else (some r37)))))) := rfl
set_option maxHeartbeats 40000000 in
theorem W_spec_l14Of {n : Nat} {a0_list : List S_Clock} {a1_k : Int} {r : S_l14Wave} {w : World} {v1 : Value} (hF : F_spec_l14Of n a0_list a1_k = some r) (ha2 : slRep C_Clock w (Iv 0 w.heap.size) a0_list v1) :
    Calls Tryd.prog 51 [v1, .int .i64 a1_k].toArray w (Ret fun u w2 => u = .agg #[.int .i64 r.period_, .int .i64 r.rise_, .int .i64 r.fall_] ∧ Ext w w2) := by
  cases n with
  | zero => rw [F_spec_l14Of_z] at hF; cases hF
  | succ n =>
    refine calls_of Tryd.func51 rfl Tryd.ntmps51 ?_
    have he0 : Ext w w := Ext.refl w
    rw [F_spec_l14Of_s] at hF
    refine WC.seq ?_
    refine WC.region ?_
    refine TL.eff rfl rfl (eff_alloc rfl zn_79) ?_
    rintro _ w4 ⟨b3, rfl, hn5⟩
    obtain ⟨hn5e, hn5s, hn5x, hb6⟩ := hn5
    have hb6 : Box w4 b3 [.int .i64 0, .int .i64 0, .int .i64 0] 79 := hb6
    have he8 : Ext w w4 := Ext.trans he0 hn5x
    have hz9 := (hn5x).size
    have hlo7 : w.heap.size ≤ b3 := by rw [hn5e]; exact (he0).size
    refine TL.done ?_
    refine NX.seq ?_
    refine WC.seq ?_
    refine WC.region ?_
    refine TL.yld rfl rfl (yld_move rfl rfl) ?_
    refine TL.yld rfl rfl (yld_move rfl rfl) ?_
    obtain ⟨x10, hy11, hF⟩ := bsome hF
    refine TL.ye rfl rfl (ye_index (c := C_Clock) rfl Tryd.underlying26 cn_75 rfl rfl (slRep.old ha2 he8 (Nat.le_refl _)) hy11) ?_
    rintro _ ⟨b12, o13, us14, rfl, hib17, hr15, hcl16⟩
    have hib17 : 0 ≤ b12 ∧ b12 < w.heap.size := ⟨hib17.1, by have := hib17.2; omega⟩
    obtain rfl := C_Clock_open hr15
    refine TL.yld rfl rfl (yld_loadN (us := [.string x10.Name, .int .i64 x10.Place, .int .i64 x10.Period, .int .i64 x10.RiseAt, .int .i64 x10.FallAt, .int .i64 x10.Source, .int .i64 x10.Divide, .bool x10.Invert, .int .i64 x10.EarlyLatency, .int .i64 x10.LateLatency, .int .i64 x10.Uncertainty]) rfl ag_75 rfl hcl16 cn_75) ?_
    refine TL.eff rfl rfl (eff_alloc rfl zn_75) ?_
    rintro _ w19 ⟨b18, rfl, hn20⟩
    obtain ⟨hn20e, hn20s, hn20x, hb21⟩ := hn20
    have hb21 : Box w19 b18 [.string ByteArray.empty, .int .i64 0, .int .i64 0, .int .i64 0, .int .i64 0, .int .i64 0, .int .i64 0, .bool false, .int .i64 0, .int .i64 0, .int .i64 0] 75 := hb21
    have he23 : Ext w w19 := Ext.trans he8 hn20x
    have hb6 := Box.ext hb6 hn20x
    have hz24 := (hn20x).size
    have hlo22 : w.heap.size ≤ b18 := by rw [hn20e]; exact (he8).size
    refine TL.eff rfl rfl (eff_store rfl rfl rfl hb21 cn_75 rfl rfl) ?_
    rintro _ w25 ⟨hu26, hb27⟩
    have he28 : Ext w w25 := Below.trans he23 (Upd.below hu26 (by omega))
    have hb6 := Box.upd hb6 hu26 (by omega)
    have hz29 := (hu26).size
    have hb21 : Box w25 b18 [.string x10.Name, .int .i64 x10.Place, .int .i64 x10.Period, .int .i64 x10.RiseAt, .int .i64 x10.FallAt, .int .i64 x10.Source, .int .i64 x10.Divide, .bool x10.Invert, .int .i64 x10.EarlyLatency, .int .i64 x10.LateLatency, .int .i64 x10.Uncertainty] 75 := hb27
    refine TL.done ?_
    refine NX.seq ?_
    refine WC.seq ?_
    refine WC.seq ?_
    refine WC.region ?_
    refine TL.yld rfl rfl (yld_fieldAddr rfl fo_75_5 rfl) ?_
    refine TL.yld rfl rfl (yld_load1 5 rfl ag_2 rfl (Box.cells hb21) rfl rfl) ?_
    refine TL.yld rfl rfl (yld_lss rfl rfl rfl) ?_
    refine TL.done ?_
    refine NX.seq ?_
    refine WC.cond rfl ?_ ?_
    · intro hc30
      replace hF := bif_t hc30 hF
      refine WC.seq ?_
      refine WC.region ?_
      refine TL.yld rfl rfl (yld_fieldAddr rfl fo_75_2 rfl) ?_
      refine TL.yld rfl rfl (yld_load1 2 rfl ag_2 rfl (Box.cells hb21) rfl rfl) ?_
      refine TL.yld rfl rfl (yld_fieldAddr rfl fo_75_3 rfl) ?_
      refine TL.yld rfl rfl (yld_load1 3 rfl ag_2 rfl (Box.cells hb21) rfl rfl) ?_
      refine TL.yld rfl rfl (yld_fieldAddr rfl fo_75_4 rfl) ?_
      refine TL.yld rfl rfl (yld_load1 4 rfl ag_2 rfl (Box.cells hb21) rfl rfl) ?_
      refine TL.yld rfl rfl (yld_build (uss := [(0, [.int .i64 x10.Period]), (1, [.int .i64 x10.RiseAt]), (2, [.int .i64 x10.FallAt])]) (out := [.int .i64 x10.Period, .int .i64 x10.RiseAt, .int .i64 x10.FallAt]) rfl rfl zn_79 pl_79 rfl rfl) ?_
      refine TL.eff rfl rfl (eff_store rfl rfl rfl hb6 cn_79 rfl rfl) ?_
      rintro _ w31 ⟨hu32, hb33⟩
      have he34 : Ext w w31 := Below.trans he28 (Upd.below hu32 (by omega))
      have hb21 := Box.upd hb21 hu32 (by omega)
      have hz35 := (hu32).size
      have hb6 : Box w31 b3 [.int .i64 x10.Period, .int .i64 x10.RiseAt, .int .i64 x10.FallAt] 79 := hb33
      refine TL.done ?_
      refine NX.seq ?_
      refine WC.ret' ?_
      refine NX.then_r ?_
      obtain rfl := Option.some.inj hF
      exact NX.end (rs := [.cell 4 79]) (vs := [.agg #[.int .i64 x10.Period, .int .i64 x10.RiseAt, .int .i64 x10.FallAt]]) rfl ⟨⟨b3, rfl, box_load ag_79 cn_79 hb6⟩, trivial⟩ ⟨_, rfl, rfl, he34⟩
    · intro hc36
      replace hF := bif_f hc36 hF
      refine WC.skip' ?_
      refine NX.seq ?_
      refine WC.seq ?_
      refine WC.region ?_
      refine TL.yld rfl rfl (yld_move rfl rfl) ?_
      refine TL.yld rfl rfl (yld_fieldAddr rfl fo_75_5 rfl) ?_
      refine TL.yld rfl rfl (yld_load1 5 rfl ag_2 rfl (Box.cells hb21) rfl rfl) ?_
      obtain ⟨r37, hr38, hF⟩ := bsome hF
      refine TL.eff rfl rfl (eff_call rfl gf_51 rfl (W_spec_l14Of hr38 ((slRep.old ha2 he28 (Nat.le_refl _)).wide (Nat.le_refl _) (he28).size))) ?_
      rintro _ w39 ⟨rfl, hx40⟩
      have he41 : Ext w w39 := Ext.trans he28 hx40
      have hb6 := Box.ext hb6 hx40
      have hb21 := Box.ext hb21 hx40
      have hz42 := (hx40).size
      refine TL.eff rfl rfl (eff_alloc rfl zn_79) ?_
      rintro _ w44 ⟨b43, rfl, hn45⟩
      obtain ⟨hn45e, hn45s, hn45x, hb46⟩ := hn45
      have hb46 : Box w44 b43 [.int .i64 0, .int .i64 0, .int .i64 0] 79 := hb46
      have he48 : Ext w w44 := Ext.trans he41 hn45x
      have hb6 := Box.ext hb6 hn45x
      have hb21 := Box.ext hb21 hn45x
      have hz49 := (hn45x).size
      have hlo47 : w.heap.size ≤ b43 := by rw [hn45e]; exact (he41).size
      refine TL.eff rfl rfl (eff_store rfl rfl rfl hb46 cn_79 rfl rfl) ?_
      rintro _ w50 ⟨hu51, hb52⟩
      have he53 : Ext w w50 := Below.trans he48 (Upd.below hu51 (by omega))
      have hb6 := Box.upd hb6 hu51 (by omega)
      have hb21 := Box.upd hb21 hu51 (by omega)
      have hz54 := (hu51).size
      have hb46 : Box w50 b43 [.int .i64 r37.period_, .int .i64 r37.rise_, .int .i64 r37.fall_] 79 := hb52
      refine TL.done ?_
      refine NX.seq ?_
      refine WC.seq ?_
      refine WC.seq ?_
      refine WC.region ?_
      refine TL.yld rfl rfl (yld_fieldAddr rfl fo_75_6 rfl) ?_
      refine TL.yld rfl rfl (yld_load1 6 rfl ag_2 rfl (Box.cells hb21) rfl rfl) ?_
      refine TL.yld rfl rfl (yld_gtr rfl rfl rfl) ?_
      refine TL.done ?_
      refine NX.seq ?_
      refine WC.cond rfl ?_ ?_
      · intro hc55
        replace hF := bif_t hc55 hF
        refine WC.region ?_
        refine TL.yld rfl rfl (yld_fieldAddr rfl fo_79_0 rfl) ?_
        refine TL.yld rfl rfl (yld_load1 0 rfl ag_2 rfl (Box.cells hb46) rfl rfl) ?_
        refine TL.yld rfl rfl (yld_fieldAddr rfl fo_75_6 rfl) ?_
        refine TL.yld rfl rfl (yld_load1 6 rfl ag_2 rfl (Box.cells hb21) rfl rfl) ?_
        refine TL.yld rfl rfl (yld_mul rfl rfl rfl) ?_
        refine TL.yld rfl rfl (yld_fieldAddr rfl fo_79_1 rfl) ?_
        refine TL.yld rfl rfl (yld_load1 1 rfl ag_2 rfl (Box.cells hb46) rfl rfl) ?_
        refine TL.yld rfl rfl (yld_fieldAddr rfl fo_79_1 rfl) ?_
        refine TL.yld rfl rfl (yld_load1 1 rfl ag_2 rfl (Box.cells hb46) rfl rfl) ?_
        refine TL.yld rfl rfl (yld_fieldAddr rfl fo_75_6 rfl) ?_
        refine TL.yld rfl rfl (yld_load1 6 rfl ag_2 rfl (Box.cells hb21) rfl rfl) ?_
        refine TL.yld rfl rfl (yld_quo rfl rfl rfl (by decide)) ?_
        refine TL.yld rfl rfl (yld_fieldAddr rfl fo_79_0 rfl) ?_
        refine TL.yld rfl rfl (yld_load1 0 rfl ag_2 rfl (Box.cells hb46) rfl rfl) ?_
        refine TL.yld rfl rfl (yld_mul rfl rfl rfl) ?_
        refine TL.yld rfl rfl (yld_add rfl rfl rfl) ?_
        refine TL.yld rfl rfl (yld_build (uss := [(0, [.int .i64 (IntKind.wrap IntKind.i64 (r37.period_ * x10.Divide))]), (1, [.int .i64 r37.rise_]), (2, [.int .i64 (IntKind.wrap IntKind.i64 (r37.rise_ + (IntKind.wrap IntKind.i64 ((IntKind.wrap IntKind.i64 (Int.tdiv x10.Divide 2)) * r37.period_))))])]) (out := [.int .i64 (IntKind.wrap IntKind.i64 (r37.period_ * x10.Divide)), .int .i64 r37.rise_, .int .i64 (IntKind.wrap IntKind.i64 (r37.rise_ + (IntKind.wrap IntKind.i64 ((IntKind.wrap IntKind.i64 (Int.tdiv x10.Divide 2)) * r37.period_))))]) rfl rfl zn_79 pl_79 rfl rfl) ?_
        refine TL.eff rfl rfl (eff_store rfl rfl rfl hb46 cn_79 rfl rfl) ?_
        rintro _ w56 ⟨hu57, hb58⟩
        have he59 : Ext w w56 := Below.trans he53 (Upd.below hu57 (by omega))
        have hb6 := Box.upd hb6 hu57 (by omega)
        have hb21 := Box.upd hb21 hu57 (by omega)
        have hz60 := (hu57).size
        have hb46 : Box w56 b43 [.int .i64 (IntKind.wrap IntKind.i64 (r37.period_ * x10.Divide)), .int .i64 r37.rise_, .int .i64 (IntKind.wrap IntKind.i64 (r37.rise_ + (IntKind.wrap IntKind.i64 ((IntKind.wrap IntKind.i64 (Int.tdiv x10.Divide 2)) * r37.period_))))] 79 := hb58
        refine TL.done ?_
        refine NX.seq ?_
        refine WC.seq ?_
        refine WC.seq ?_
        refine WC.region ?_
        refine TL.yld rfl rfl (yld_fieldAddr rfl fo_75_7 rfl) ?_
        refine TL.yld rfl rfl (yld_load1 7 rfl ag_4 rfl (Box.cells hb21) rfl rfl) ?_
        refine TL.done ?_
        refine NX.seq ?_
        refine WC.cond rfl ?_ ?_
        · intro hc61
          replace hF := bif_t hc61 hF
          refine WC.region ?_
          refine TL.yld rfl rfl (yld_fieldAddr rfl fo_79_0 rfl) ?_
          refine TL.yld rfl rfl (yld_load1 0 rfl ag_2 rfl (Box.cells hb46) rfl rfl) ?_
          refine TL.yld rfl rfl (yld_fieldAddr rfl fo_79_2 rfl) ?_
          refine TL.yld rfl rfl (yld_load1 2 rfl ag_2 rfl (Box.cells hb46) rfl rfl) ?_
          refine TL.yld rfl rfl (yld_fieldAddr rfl fo_79_1 rfl) ?_
          refine TL.yld rfl rfl (yld_load1 1 rfl ag_2 rfl (Box.cells hb46) rfl rfl) ?_
          refine TL.yld rfl rfl (yld_build (uss := [(0, [.int .i64 (IntKind.wrap IntKind.i64 (r37.period_ * x10.Divide))]), (1, [.int .i64 (IntKind.wrap IntKind.i64 (r37.rise_ + (IntKind.wrap IntKind.i64 ((IntKind.wrap IntKind.i64 (Int.tdiv x10.Divide 2)) * r37.period_))))]), (2, [.int .i64 r37.rise_])]) (out := [.int .i64 (IntKind.wrap IntKind.i64 (r37.period_ * x10.Divide)), .int .i64 (IntKind.wrap IntKind.i64 (r37.rise_ + (IntKind.wrap IntKind.i64 ((IntKind.wrap IntKind.i64 (Int.tdiv x10.Divide 2)) * r37.period_)))), .int .i64 r37.rise_]) rfl rfl zn_79 pl_79 rfl rfl) ?_
          refine TL.eff rfl rfl (eff_store rfl rfl rfl hb46 cn_79 rfl rfl) ?_
          rintro _ w62 ⟨hu63, hb64⟩
          have he65 : Ext w w62 := Below.trans he59 (Upd.below hu63 (by omega))
          have hb6 := Box.upd hb6 hu63 (by omega)
          have hb21 := Box.upd hb21 hu63 (by omega)
          have hz66 := (hu63).size
          have hb46 : Box w62 b43 [.int .i64 (IntKind.wrap IntKind.i64 (r37.period_ * x10.Divide)), .int .i64 (IntKind.wrap IntKind.i64 (r37.rise_ + (IntKind.wrap IntKind.i64 ((IntKind.wrap IntKind.i64 (Int.tdiv x10.Divide 2)) * r37.period_)))), .int .i64 r37.rise_] 79 := hb64
          refine TL.done ?_
          refine NX.seq ?_
          refine WC.seq ?_
          refine WC.region ?_
          refine TL.yld rfl rfl (yld_loadN (us := [.int .i64 (IntKind.wrap IntKind.i64 (r37.period_ * x10.Divide)), .int .i64 (IntKind.wrap IntKind.i64 (r37.rise_ + (IntKind.wrap IntKind.i64 ((IntKind.wrap IntKind.i64 (Int.tdiv x10.Divide 2)) * r37.period_)))), .int .i64 r37.rise_]) rfl ag_79 rfl (Box.cells hb46) cn_79) ?_
          refine TL.eff rfl rfl (eff_store rfl rfl rfl hb6 cn_79 rfl rfl) ?_
          rintro _ w67 ⟨hu68, hb69⟩
          have he70 : Ext w w67 := Below.trans he65 (Upd.below hu68 (by omega))
          have hb21 := Box.upd hb21 hu68 (by omega)
          have hb46 := Box.upd hb46 hu68 (by omega)
          have hz71 := (hu68).size
          have hb6 : Box w67 b3 [.int .i64 (IntKind.wrap IntKind.i64 (r37.period_ * x10.Divide)), .int .i64 (IntKind.wrap IntKind.i64 (r37.rise_ + (IntKind.wrap IntKind.i64 ((IntKind.wrap IntKind.i64 (Int.tdiv x10.Divide 2)) * r37.period_)))), .int .i64 r37.rise_] 79 := hb69
          refine TL.done ?_
          refine NX.seq ?_
          refine WC.ret' ?_
          obtain rfl := Option.some.inj hF
          exact NX.end (rs := [.cell 4 79]) (vs := [.agg #[.int .i64 (IntKind.wrap IntKind.i64 (r37.period_ * x10.Divide)), .int .i64 (IntKind.wrap IntKind.i64 (r37.rise_ + (IntKind.wrap IntKind.i64 ((IntKind.wrap IntKind.i64 (Int.tdiv x10.Divide 2)) * r37.period_)))), .int .i64 r37.rise_]]) rfl ⟨⟨b3, rfl, box_load ag_79 cn_79 hb6⟩, trivial⟩ ⟨_, rfl, rfl, he70⟩
        · intro hc72
          replace hF := bif_f hc72 hF
          refine WC.skip' ?_
          refine NX.seq ?_
          refine WC.seq ?_
          refine WC.region ?_
          refine TL.yld rfl rfl (yld_loadN (us := [.int .i64 (IntKind.wrap IntKind.i64 (r37.period_ * x10.Divide)), .int .i64 r37.rise_, .int .i64 (IntKind.wrap IntKind.i64 (r37.rise_ + (IntKind.wrap IntKind.i64 ((IntKind.wrap IntKind.i64 (Int.tdiv x10.Divide 2)) * r37.period_))))]) rfl ag_79 rfl (Box.cells hb46) cn_79) ?_
          refine TL.eff rfl rfl (eff_store rfl rfl rfl hb6 cn_79 rfl rfl) ?_
          rintro _ w73 ⟨hu74, hb75⟩
          have he76 : Ext w w73 := Below.trans he59 (Upd.below hu74 (by omega))
          have hb21 := Box.upd hb21 hu74 (by omega)
          have hb46 := Box.upd hb46 hu74 (by omega)
          have hz77 := (hu74).size
          have hb6 : Box w73 b3 [.int .i64 (IntKind.wrap IntKind.i64 (r37.period_ * x10.Divide)), .int .i64 r37.rise_, .int .i64 (IntKind.wrap IntKind.i64 (r37.rise_ + (IntKind.wrap IntKind.i64 ((IntKind.wrap IntKind.i64 (Int.tdiv x10.Divide 2)) * r37.period_))))] 79 := hb75
          refine TL.done ?_
          refine NX.seq ?_
          refine WC.ret' ?_
          obtain rfl := Option.some.inj hF
          exact NX.end (rs := [.cell 4 79]) (vs := [.agg #[.int .i64 (IntKind.wrap IntKind.i64 (r37.period_ * x10.Divide)), .int .i64 r37.rise_, .int .i64 (IntKind.wrap IntKind.i64 (r37.rise_ + (IntKind.wrap IntKind.i64 ((IntKind.wrap IntKind.i64 (Int.tdiv x10.Divide 2)) * r37.period_))))]]) rfl ⟨⟨b3, rfl, box_load ag_79 cn_79 hb6⟩, trivial⟩ ⟨_, rfl, rfl, he76⟩
      · intro hc78
        replace hF := bif_f hc78 hF
        refine WC.skip' ?_
        refine NX.seq ?_
        refine WC.seq ?_
        refine WC.seq ?_
        refine WC.region ?_
        refine TL.yld rfl rfl (yld_fieldAddr rfl fo_75_7 rfl) ?_
        refine TL.yld rfl rfl (yld_load1 7 rfl ag_4 rfl (Box.cells hb21) rfl rfl) ?_
        refine TL.done ?_
        refine NX.seq ?_
        refine WC.cond rfl ?_ ?_
        · intro hc79
          replace hF := bif_t hc79 hF
          refine WC.region ?_
          refine TL.yld rfl rfl (yld_fieldAddr rfl fo_79_0 rfl) ?_
          refine TL.yld rfl rfl (yld_load1 0 rfl ag_2 rfl (Box.cells hb46) rfl rfl) ?_
          refine TL.yld rfl rfl (yld_fieldAddr rfl fo_79_2 rfl) ?_
          refine TL.yld rfl rfl (yld_load1 2 rfl ag_2 rfl (Box.cells hb46) rfl rfl) ?_
          refine TL.yld rfl rfl (yld_fieldAddr rfl fo_79_1 rfl) ?_
          refine TL.yld rfl rfl (yld_load1 1 rfl ag_2 rfl (Box.cells hb46) rfl rfl) ?_
          refine TL.yld rfl rfl (yld_build (uss := [(0, [.int .i64 r37.period_]), (1, [.int .i64 r37.fall_]), (2, [.int .i64 r37.rise_])]) (out := [.int .i64 r37.period_, .int .i64 r37.fall_, .int .i64 r37.rise_]) rfl rfl zn_79 pl_79 rfl rfl) ?_
          refine TL.eff rfl rfl (eff_store rfl rfl rfl hb46 cn_79 rfl rfl) ?_
          rintro _ w80 ⟨hu81, hb82⟩
          have he83 : Ext w w80 := Below.trans he53 (Upd.below hu81 (by omega))
          have hb6 := Box.upd hb6 hu81 (by omega)
          have hb21 := Box.upd hb21 hu81 (by omega)
          have hz84 := (hu81).size
          have hb46 : Box w80 b43 [.int .i64 r37.period_, .int .i64 r37.fall_, .int .i64 r37.rise_] 79 := hb82
          refine TL.done ?_
          refine NX.seq ?_
          refine WC.seq ?_
          refine WC.region ?_
          refine TL.yld rfl rfl (yld_loadN (us := [.int .i64 r37.period_, .int .i64 r37.fall_, .int .i64 r37.rise_]) rfl ag_79 rfl (Box.cells hb46) cn_79) ?_
          refine TL.eff rfl rfl (eff_store rfl rfl rfl hb6 cn_79 rfl rfl) ?_
          rintro _ w85 ⟨hu86, hb87⟩
          have he88 : Ext w w85 := Below.trans he83 (Upd.below hu86 (by omega))
          have hb21 := Box.upd hb21 hu86 (by omega)
          have hb46 := Box.upd hb46 hu86 (by omega)
          have hz89 := (hu86).size
          have hb6 : Box w85 b3 [.int .i64 r37.period_, .int .i64 r37.fall_, .int .i64 r37.rise_] 79 := hb87
          refine TL.done ?_
          refine NX.seq ?_
          refine WC.ret' ?_
          obtain rfl := Option.some.inj hF
          exact NX.end (rs := [.cell 4 79]) (vs := [.agg #[.int .i64 r37.period_, .int .i64 r37.fall_, .int .i64 r37.rise_]]) rfl ⟨⟨b3, rfl, box_load ag_79 cn_79 hb6⟩, trivial⟩ ⟨_, rfl, rfl, he88⟩
        · intro hc90
          replace hF := bif_f hc90 hF
          refine WC.skip' ?_
          refine NX.seq ?_
          refine WC.seq ?_
          refine WC.region ?_
          refine TL.yld rfl rfl (yld_loadN (us := [.int .i64 r37.period_, .int .i64 r37.rise_, .int .i64 r37.fall_]) rfl ag_79 rfl (Box.cells hb46) cn_79) ?_
          refine TL.eff rfl rfl (eff_store rfl rfl rfl hb6 cn_79 rfl rfl) ?_
          rintro _ w91 ⟨hu92, hb93⟩
          have he94 : Ext w w91 := Below.trans he53 (Upd.below hu92 (by omega))
          have hb21 := Box.upd hb21 hu92 (by omega)
          have hb46 := Box.upd hb46 hu92 (by omega)
          have hz95 := (hu92).size
          have hb6 : Box w91 b3 [.int .i64 r37.period_, .int .i64 r37.rise_, .int .i64 r37.fall_] 79 := hb93
          refine TL.done ?_
          refine NX.seq ?_
          refine WC.ret' ?_
          obtain rfl := Option.some.inj hF
          exact NX.end (rs := [.cell 4 79]) (vs := [.agg #[.int .i64 r37.period_, .int .i64 r37.rise_, .int .i64 r37.fall_]]) rfl ⟨⟨b3, rfl, box_load ag_79 cn_79 hb6⟩, trivial⟩ ⟨_, rfl, rfl, he94⟩
termination_by n

-- loop.example/g00861/spec.l01In
def F_spec_l01In (n : Nat) (a0_n : Int) (a1_low : Int) (a2_high : Int) : Option Bool := (some (((decide (a0_n ≥ a1_low)) && (decide (a0_n ≤ a2_high)))))
set_option maxHeartbeats 40000000 in
theorem W_spec_l01In {n : Nat} {a0_n : Int} {a1_low : Int} {a2_high : Int} {r : Bool} {w : World} (hF : F_spec_l01In n a0_n a1_low a2_high = some r) :
    Calls Tryd.prog 52 [.int .i64 a0_n, .int .i64 a1_low, .int .i64 a2_high].toArray w (Ret fun u w2 => u = .bool r ∧ Ext w w2) := by
  refine calls_of Tryd.func52 rfl Tryd.ntmps52 ?_
  have he0 : Ext w w := Ext.refl w
  unfold F_spec_l01In at hF
  refine WC.seq ?_
  refine WC.region ?_
  refine TL.yld rfl rfl (yld_assign rfl rfl) ?_
  refine TL.done ?_
  refine NX.seq ?_
  refine WC.seq ?_
  refine WC.region ?_
  refine TL.yld rfl rfl (yld_move rfl rfl) ?_
  refine TL.yld rfl rfl (yld_move rfl rfl) ?_
  refine TL.yld rfl rfl (yld_geq rfl rfl rfl) ?_
  refine TL.yld rfl rfl (yld_move rfl rfl) ?_
  refine TL.cut 4 [(14, .bool (((decide (a0_n ≥ a1_low)) && (decide (a0_n ≤ a2_high)))))] (fun w' => Ext w w') ?_ ?_
  · rcases Bool.eq_false_or_eq_true (decide (a0_n ≥ a1_low)) with hg1 | hg1
    ·
      refine TL.gy (j := 3) (t := 10) rfl rfl rfl hg1 rfl (yld_move rfl rfl) ?_
      refine TL.gy (j := 3) (t := 10) rfl rfl rfl hg1 rfl (yld_move rfl rfl) ?_
      refine TL.gy (j := 3) (t := 10) rfl rfl rfl hg1 rfl (yld_leq rfl rfl rfl) ?_
      refine TL.yld rfl rfl (yld_and_t rfl rfl hg1 rfl) ?_
      exact TL.nil fun a h => ⟨h.weaken ⟨rfl, trivial⟩, Ext.refl _⟩
    ·
      refine TL.gnu (j := 3) (t := 10) rfl rfl rfl hg1 rfl ?_
      refine TL.gnu (j := 3) (t := 10) rfl rfl rfl hg1 rfl ?_
      refine TL.gnu (j := 3) (t := 10) rfl rfl rfl hg1 rfl ?_
      refine TL.yld rfl rfl (yld_and_f (b2 := decide (a0_n ≤ a2_high)) rfl rfl hg1 rfl) ?_
      exact TL.nil fun a h => ⟨h.weaken ⟨rfl, trivial⟩, Ext.refl _⟩
  intro w2 hx3
  have he4 : Ext w w2 := Ext.trans he0 hx3
  have hz5 := (hx3).size
  refine TL.yld rfl rfl (yld_assign rfl rfl) ?_
  refine TL.done ?_
  refine NX.seq ?_
  refine WC.ret' ?_
  obtain rfl := Option.some.inj hF
  exact NX.end (rs := [.tmp 6]) (vs := [.bool (((decide (a0_n ≥ a1_low)) && (decide (a0_n ≤ a2_high))))]) rfl ⟨rfl, trivial⟩ ⟨_, rfl, rfl, he4⟩

-- loop.example/g00861/spec.l03Name
def F_spec_l03Name_L1 (a0_s : ByteArray) (k0 : Int → Option Bool) : Nat → Int → Option Bool
  | 0 => fun _ => none
  | m + 1 => fun i3 => (bif decide (i3 < (a0_s.size : Int)) then (Option.bind (getB a0_s i3) fun x5 => (Option.bind (bif decide (x5 ≥ 97) then (Option.bind (getB a0_s i3) fun x7 => (some (decide (x7 ≤ 122)))) else (some false)) fun c7 => (Option.bind (getB a0_s i3) fun x16 => (Option.bind (bif decide (x16 ≥ 48) then (Option.bind (getB a0_s i3) fun x18 => (some (decide (x18 ≤ 57)))) else (some false)) fun c18 => (bif ((!c7) && ((!((c18 && (decide (i3 > 0))))))) then (some false) else (F_spec_l03Name_L1 a0_s k0 m (IntKind.wrap IntKind.i64 (i3 + 1)))))))) else (k0 i3))
theorem F_spec_l03Name_L1_z (a0_s : ByteArray) (k0 : Int → Option Bool) (i3 : Int) : F_spec_l03Name_L1 a0_s k0 0 i3 = none := rfl
theorem F_spec_l03Name_L1_s (m : Nat) (a0_s : ByteArray) (k0 : Int → Option Bool) (i3 : Int) : F_spec_l03Name_L1 a0_s k0 (m + 1) i3 = (bif decide (i3 < (a0_s.size : Int)) then (Option.bind (getB a0_s i3) fun x5 => (Option.bind (bif decide (x5 ≥ 97) then (Option.bind (getB a0_s i3) fun x7 => (some (decide (x7 ≤ 122)))) else (some false)) fun c7 => (Option.bind (getB a0_s i3) fun x16 => (Option.bind (bif decide (x16 ≥ 48) then (Option.bind (getB a0_s i3) fun x18 => (some (decide (x18 ≤ 57)))) else (some false)) fun c18 => (bif ((!c7) && ((!((c18 && (decide (i3 > 0))))))) then (some false) else (F_spec_l03Name_L1 a0_s k0 m (IntKind.wrap IntKind.i64 (i3 + 1)))))))) else (k0 i3)) := rfl

def F_spec_l03Name (n : Nat) (a0_s : ByteArray) : Option Bool := (F_spec_l03Name_L1 a0_s (fun i3 => (some (((decide ((a0_s.size : Int) ≥ 1)) && (decide ((a0_s.size : Int) ≤ 8)))))) n 0)
set_option maxHeartbeats 40000000 in
theorem W_spec_l03Name {n : Nat} {a0_s : ByteArray} {r : Bool} {w : World} (hF : F_spec_l03Name n a0_s = some r) :
    Calls Tryd.prog 115 [.string a0_s].toArray w (Ret fun u w2 => u = .bool r ∧ Ext w w2) := by
  refine calls_of Tryd.func115 rfl Tryd.ntmps115 ?_
  have he0 : Ext w w := Ext.refl w
  unfold F_spec_l03Name at hF
  refine WC.seq ?_
  refine WC.region ?_
  refine TL.yld rfl rfl (yld_assign rfl rfl) ?_
  refine TL.done ?_
  refine NX.seq ?_
  refine WC.seq ?_
  refine WC.seq ?_
  refine WC.region ?_
  refine TL.yld rfl rfl (yld_assign rfl rfl) ?_
  refine TL.done ?_
  refine NX.seq ?_
  refine WC.block ?_
  refine WC.loop (fun m4 a wl => ∃ (i3 : Int), Kn 50 [(0, .string a0_s), (3, .int .i64 i3)] a ∧ Ext w wl ∧ w.heap.size ≤ wl.heap.size ∧ F_spec_l03Name_L1 a0_s (fun i3 => (some (((decide ((a0_s.size : Int) ≥ 1)) && (decide ((a0_s.size : Int) ≤ 8)))))) m4 i3 = some r) n ?_ ?_
  · intro a hK; exact ⟨0, hK.weaken ⟨rfl, rfl, trivial⟩, he0, Nat.le_refl _, hF⟩
  · rintro m4 a w1 ⟨i3, hK, he2, hz5, hF⟩
    revert hK; revert a; refine (?_ : WC _ _ _ _ _ _)
    cases m4 with
    | zero => rw [F_spec_l03Name_L1_z] at hF; cases hF
    | succ m4 =>
      rw [F_spec_l03Name_L1_s] at hF
      refine WC.seq ?_
      refine WC.seq ?_
      refine WC.region ?_
      refine TL.yld rfl rfl (yld_move rfl rfl) ?_
      refine TL.yld rfl rfl (yld_move rfl rfl) ?_
      refine TL.yld rfl rfl (yld_lens rfl Tryd.underlying9 rfl) ?_
      refine TL.yld rfl rfl (yld_lss rfl rfl rfl) ?_
      refine TL.done ?_
      refine NX.seq ?_
      refine WC.cond rfl ?_ ?_
      · intro hc6
        replace hF := bif_t hc6 hF
        refine WC.skip' ?_
        refine NX.seq ?_
        refine WC.seq ?_
        refine WC.block ?_
        refine WC.seq ?_
        refine WC.region ?_
        refine TL.yld rfl rfl (yld_move rfl rfl) ?_
        refine TL.yld rfl rfl (yld_move rfl rfl) ?_
        obtain ⟨x7, hy8, hF⟩ := bsome hF
        refine TL.yld rfl rfl (yld_indexStr rfl Tryd.underlying9 rfl rfl hy8) ?_
        refine TL.yld rfl rfl (yld_geq rfl rfl rfl) ?_
        refine TL.yld rfl rfl (yld_move rfl rfl) ?_
        obtain ⟨c9, hb10, hF⟩ := bsome hF
        refine TL.cut 5 [(0, .string a0_s), (3, .int .i64 i3), (21, .bool c9)] (fun w' => Ext w1 w') ?_ ?_
        · rcases Bool.eq_false_or_eq_true (decide (x7 ≥ 97)) with hg11 | hg11
          ·
            rw [hg11] at hb10; simp only [cond_true, cond_false] at hb10
            replace hF := hb10
            refine TL.gy (j := 4) (t := 16) rfl rfl rfl hg11 rfl (yld_move rfl rfl) ?_
            refine TL.gy (j := 4) (t := 16) rfl rfl rfl hg11 rfl (yld_move rfl rfl) ?_
            obtain ⟨x12, hy13, hF⟩ := bsome hF
            refine TL.gy (j := 4) (t := 16) rfl rfl rfl hg11 rfl (yld_indexStr rfl Tryd.underlying9 rfl rfl hy13) ?_
            refine TL.gy (j := 4) (t := 16) rfl rfl rfl hg11 rfl (yld_leq rfl rfl rfl) ?_
            obtain rfl := Option.some.inj hF
            refine TL.yld rfl rfl (yld_pick_t rfl rfl hg11 rfl) ?_
            exact TL.nil fun a h => ⟨h.weaken ⟨rfl, rfl, rfl, trivial⟩, Ext.refl _⟩
          ·
            rw [hg11] at hb10; simp only [cond_true, cond_false] at hb10
            refine TL.gnu (j := 4) (t := 16) rfl rfl rfl hg11 rfl ?_
            refine TL.gnu (j := 4) (t := 16) rfl rfl rfl hg11 rfl ?_
            refine TL.gnu (j := 4) (t := 16) rfl rfl rfl hg11 rfl ?_
            refine TL.gnu (j := 4) (t := 16) rfl rfl rfl hg11 rfl ?_
            obtain rfl := Option.some.inj hb10
            refine TL.yld rfl rfl (yld_pick_f rfl rfl hg11 rfl) ?_
            exact TL.nil fun a h => ⟨h.weaken ⟨rfl, rfl, rfl, trivial⟩, Ext.refl _⟩
        intro w14 hx15
        have he16 : Ext w w14 := Ext.trans he2 hx15
        have hz17 := (hx15).size
        refine TL.yld rfl rfl (yld_assign rfl rfl) ?_
        refine TL.done ?_
        refine NX.seq ?_
        refine WC.seq ?_
        refine WC.region ?_
        refine TL.yld rfl rfl (yld_move rfl rfl) ?_
        refine TL.yld rfl rfl (yld_move rfl rfl) ?_
        obtain ⟨x18, hy19, hF⟩ := bsome hF
        refine TL.yld rfl rfl (yld_indexStr rfl Tryd.underlying9 rfl rfl hy19) ?_
        refine TL.yld rfl rfl (yld_geq rfl rfl rfl) ?_
        refine TL.yld rfl rfl (yld_move rfl rfl) ?_
        obtain ⟨c20, hb21, hF⟩ := bsome hF
        refine TL.cut 5 [(0, .string a0_s), (3, .int .i64 i3), (4, .bool c9), (31, .bool c20)] (fun w' => Ext w14 w') ?_ ?_
        · rcases Bool.eq_false_or_eq_true (decide (x18 ≥ 48)) with hg22 | hg22
          ·
            rw [hg22] at hb21; simp only [cond_true, cond_false] at hb21
            replace hF := hb21
            refine TL.gy (j := 4) (t := 26) rfl rfl rfl hg22 rfl (yld_move rfl rfl) ?_
            refine TL.gy (j := 4) (t := 26) rfl rfl rfl hg22 rfl (yld_move rfl rfl) ?_
            obtain ⟨x23, hy24, hF⟩ := bsome hF
            refine TL.gy (j := 4) (t := 26) rfl rfl rfl hg22 rfl (yld_indexStr rfl Tryd.underlying9 rfl rfl hy24) ?_
            refine TL.gy (j := 4) (t := 26) rfl rfl rfl hg22 rfl (yld_leq rfl rfl rfl) ?_
            obtain rfl := Option.some.inj hF
            refine TL.yld rfl rfl (yld_pick_t rfl rfl hg22 rfl) ?_
            exact TL.nil fun a h => ⟨h.weaken ⟨rfl, rfl, rfl, rfl, trivial⟩, Ext.refl _⟩
          ·
            rw [hg22] at hb21; simp only [cond_true, cond_false] at hb21
            refine TL.gnu (j := 4) (t := 26) rfl rfl rfl hg22 rfl ?_
            refine TL.gnu (j := 4) (t := 26) rfl rfl rfl hg22 rfl ?_
            refine TL.gnu (j := 4) (t := 26) rfl rfl rfl hg22 rfl ?_
            refine TL.gnu (j := 4) (t := 26) rfl rfl rfl hg22 rfl ?_
            obtain rfl := Option.some.inj hb21
            refine TL.yld rfl rfl (yld_pick_f rfl rfl hg22 rfl) ?_
            exact TL.nil fun a h => ⟨h.weaken ⟨rfl, rfl, rfl, rfl, trivial⟩, Ext.refl _⟩
        intro w25 hx26
        have he27 : Ext w w25 := Ext.trans he16 hx26
        have hz28 := (hx26).size
        refine TL.yld rfl rfl (yld_assign rfl rfl) ?_
        refine TL.done ?_
        refine NX.seq ?_
        refine WC.seq ?_
        refine WC.region ?_
        refine TL.yld rfl rfl (yld_move rfl rfl) ?_
        refine TL.yld rfl rfl (yld_not rfl rfl) ?_
        refine TL.yld rfl rfl (yld_move rfl rfl) ?_
        refine TL.cut 7 [(0, .string a0_s), (3, .int .i64 i3), (41, .bool (((!c9) && ((!((c20 && (decide (i3 > 0)))))))))] (fun w' => Ext w25 w') ?_ ?_
        · rcases Bool.eq_false_or_eq_true (!c9) with hg29 | hg29
          ·
            refine TL.gy (j := 2) (t := 34) rfl rfl rfl hg29 rfl (yld_move rfl rfl) ?_
            refine TL.gy (j := 2) (t := 34) rfl rfl rfl hg29 rfl (yld_move rfl rfl) ?_
            refine TL.cut 3 [(0, .string a0_s), (3, .int .i64 i3), (34, .bool (!c9)), (35, .bool c20), (36, .bool c20), (39, .bool ((c20 && (decide (i3 > 0)))))] (fun w' => Ext w25 w') ?_ ?_
            · rcases Bool.eq_false_or_eq_true c20 with hg30 | hg30
              ·
                refine TL.gy (j := 4) (t := 36) rfl rfl rfl hg30 rfl (yld_move rfl rfl) ?_
                refine TL.gy (j := 4) (t := 36) rfl rfl rfl hg30 rfl (yld_gtr rfl rfl rfl) ?_
                refine TL.gy (j := 2) (t := 34) rfl rfl rfl hg29 rfl (yld_and_t rfl rfl hg30 rfl) ?_
                exact TL.nil fun a h => ⟨h.weaken ⟨rfl, rfl, rfl, rfl, rfl, rfl, trivial⟩, Ext.refl _⟩
              ·
                refine TL.gnu (j := 4) (t := 36) rfl rfl rfl hg30 rfl ?_
                refine TL.gnu (j := 4) (t := 36) rfl rfl rfl hg30 rfl ?_
                refine TL.gy (j := 2) (t := 34) rfl rfl rfl hg29 rfl (yld_and_f (b2 := decide (i3 > 0)) rfl rfl hg30 rfl) ?_
                exact TL.nil fun a h => ⟨h.weaken ⟨rfl, rfl, rfl, rfl, rfl, rfl, trivial⟩, Ext.refl _⟩
            intro w31 hx32
            have he33 : Ext w w31 := Ext.trans he27 hx32
            have hz34 := (hx32).size
            refine TL.gy (j := 2) (t := 34) rfl rfl rfl hg29 rfl (yld_not rfl rfl) ?_
            refine TL.yld rfl rfl (yld_and_t rfl rfl hg29 rfl) ?_
            exact TL.nil fun a h => ⟨h.weaken ⟨rfl, rfl, rfl, trivial⟩, hx32⟩
          ·
            refine TL.gnu (j := 2) (t := 34) rfl rfl rfl hg29 rfl ?_
            refine TL.gnu (j := 2) (t := 34) rfl rfl rfl hg29 rfl ?_
            refine TL.gu (j := 4) (t := 36) rfl rfl rfl rfl ?_
            refine TL.gu (j := 4) (t := 36) rfl rfl rfl rfl ?_
            refine TL.gnu (j := 2) (t := 34) rfl rfl rfl hg29 rfl ?_
            refine TL.gnu (j := 2) (t := 34) rfl rfl rfl hg29 rfl ?_
            refine TL.yld rfl rfl (yld_and_f (b2 := (!((c20 && (decide (i3 > 0)))))) rfl rfl hg29 rfl) ?_
            exact TL.nil fun a h => ⟨h.weaken ⟨rfl, rfl, rfl, trivial⟩, Ext.refl _⟩
        intro w35 hx36
        have he37 : Ext w w35 := Ext.trans he27 hx36
        have hz38 := (hx36).size
        refine TL.done ?_
        refine NX.seq ?_
        refine WC.cond rfl ?_ ?_
        · intro hc39
          replace hF := bif_t hc39 hF
          refine WC.seq ?_
          refine WC.region ?_
          refine TL.yld rfl rfl (yld_assign rfl rfl) ?_
          refine TL.done ?_
          refine NX.seq ?_
          refine WC.ret' ?_
          refine NX.blk_r ?_
          refine NX.then_r ?_
          refine NX.then_r ?_
          refine NX.blk_r ?_
          refine NX.then_r ?_
          obtain rfl := Option.some.inj hF
          exact NX.end (rs := [.tmp 2]) (vs := [.bool false]) rfl ⟨rfl, trivial⟩ ⟨_, rfl, rfl, he37⟩
        · intro hc40
          replace hF := bif_f hc40 hF
          refine WC.skip' ?_
          refine NX.blk_n ?_
          refine NX.seq ?_
          refine WC.region ?_
          refine TL.yld rfl rfl (yld_move rfl rfl) ?_
          refine TL.yld rfl rfl (yld_add rfl rfl rfl) ?_
          refine TL.yld rfl rfl (yld_assign rfl rfl) ?_
          refine TL.done ?_
          refine NX.then_n ?_
          intro a hK; exact ⟨m4, Nat.lt_succ_self m4, (IntKind.wrap IntKind.i64 (i3 + 1)), hK.weaken ⟨rfl, rfl, trivial⟩, he37, (by omega), hF⟩
      · intro hc41
        replace hF := bif_f hc41 hF
        refine WC.exit' ?_
        refine NX.then_e ?_
        refine NX.then_e ?_
        refine NX.blk_hit ?_
        refine NX.seq ?_
        refine WC.seq ?_
        refine WC.region ?_
        refine TL.yld rfl rfl (yld_move rfl rfl) ?_
        refine TL.yld rfl rfl (yld_lens rfl Tryd.underlying9 rfl) ?_
        refine TL.yld rfl rfl (yld_geq rfl rfl rfl) ?_
        refine TL.yld rfl rfl (yld_move rfl rfl) ?_
        refine TL.cut 4 [(49, .bool (((decide ((a0_s.size : Int) ≥ 1)) && (decide ((a0_s.size : Int) ≤ 8)))))] (fun w' => Ext w1 w') ?_ ?_
        · rcases Bool.eq_false_or_eq_true (decide ((a0_s.size : Int) ≥ 1)) with hg42 | hg42
          ·
            refine TL.gy (j := 3) (t := 45) rfl rfl rfl hg42 rfl (yld_move rfl rfl) ?_
            refine TL.gy (j := 3) (t := 45) rfl rfl rfl hg42 rfl (yld_lens rfl Tryd.underlying9 rfl) ?_
            refine TL.gy (j := 3) (t := 45) rfl rfl rfl hg42 rfl (yld_leq rfl rfl rfl) ?_
            refine TL.yld rfl rfl (yld_and_t rfl rfl hg42 rfl) ?_
            exact TL.nil fun a h => ⟨h.weaken ⟨rfl, trivial⟩, Ext.refl _⟩
          ·
            refine TL.gnu (j := 3) (t := 45) rfl rfl rfl hg42 rfl ?_
            refine TL.gnu (j := 3) (t := 45) rfl rfl rfl hg42 rfl ?_
            refine TL.gnu (j := 3) (t := 45) rfl rfl rfl hg42 rfl ?_
            refine TL.yld rfl rfl (yld_and_f (b2 := decide ((a0_s.size : Int) ≤ 8)) rfl rfl hg42 rfl) ?_
            exact TL.nil fun a h => ⟨h.weaken ⟨rfl, trivial⟩, Ext.refl _⟩
        intro w43 hx44
        have he45 : Ext w w43 := Ext.trans he2 hx44
        have hz46 := (hx44).size
        refine TL.yld rfl rfl (yld_assign rfl rfl) ?_
        refine TL.done ?_
        refine NX.seq ?_
        refine WC.ret' ?_
        obtain rfl := Option.some.inj hF
        exact NX.end (rs := [.tmp 2]) (vs := [.bool (((decide ((a0_s.size : Int) ≥ 1)) && (decide ((a0_s.size : Int) ≤ 8))))]) rfl ⟨rfl, trivial⟩ ⟨_, rfl, rfl, he45⟩

-- loop.example/g00861/spec.l14Plain
def F_spec_l14Plain (n : Nat) (a0_c : S_Clock) : Option Bool := (Option.bind (F_spec_l03Name n a0_c.Name) fun r8 => (Option.bind (bif (r8 && (decide (a0_c.Place ≥ 0))) then (Option.bind (F_spec_l01In n a0_c.EarlyLatency 0 100000) fun r19 => (some r19)) else (some false)) fun c19 => (Option.bind (bif c19 then (Option.bind (F_spec_l01In n a0_c.LateLatency a0_c.EarlyLatency 100000) fun r32 => (some r32)) else (some false)) fun c32 => (Option.bind (bif c32 then (Option.bind (F_spec_l01In n a0_c.Uncertainty 0 100000) fun r45 => (some r45)) else (some false)) fun c45 => (some c45)))))
set_option maxHeartbeats 40000000 in
theorem W_spec_l14Plain {n : Nat} {a0_c : S_Clock} {r : Bool} {w : World} (hF : F_spec_l14Plain n a0_c = some r) :
    Calls Tryd.prog 129 [.agg #[.string a0_c.Name, .int .i64 a0_c.Place, .int .i64 a0_c.Period, .int .i64 a0_c.RiseAt, .int .i64 a0_c.FallAt, .int .i64 a0_c.Source, .int .i64 a0_c.Divide, .bool a0_c.Invert, .int .i64 a0_c.EarlyLatency, .int .i64 a0_c.LateLatency, .int .i64 a0_c.Uncertainty]].toArray w (Ret fun u w2 => u = .bool r ∧ Ext w w2) := by
  refine calls_of Tryd.func129 rfl Tryd.ntmps129 ?_
  have he0 : Ext w w := Ext.refl w
  unfold F_spec_l14Plain at hF
  refine WC.seq ?_
  refine WC.region ?_
  refine TL.eff rfl rfl (eff_box rfl rfl) ?_
  rintro _ w2 ⟨b1, rfl, hn3⟩
  obtain ⟨hn3e, hn3s, hn3x, hb4⟩ := hn3
  have hb4 : Box w2 b1 [.string a0_c.Name, .int .i64 a0_c.Place, .int .i64 a0_c.Period, .int .i64 a0_c.RiseAt, .int .i64 a0_c.FallAt, .int .i64 a0_c.Source, .int .i64 a0_c.Divide, .bool a0_c.Invert, .int .i64 a0_c.EarlyLatency, .int .i64 a0_c.LateLatency, .int .i64 a0_c.Uncertainty] 75 := hb4
  have he6 : Ext w w2 := Ext.trans he0 hn3x
  have hz7 := (hn3x).size
  have hlo5 : w.heap.size ≤ b1 := by rw [hn3e]; exact (he0).size
  refine TL.yld rfl rfl (yld_assign rfl rfl) ?_
  refine TL.done ?_
  refine NX.seq ?_
  refine WC.seq ?_
  refine WC.region ?_
  refine TL.yld rfl rfl (yld_fieldAddr rfl fo_75_0 rfl) ?_
  refine TL.yld rfl rfl (yld_load1 0 rfl ag_9 rfl (Box.cells hb4) rfl rfl) ?_
  obtain ⟨r8, hr9, hF⟩ := bsome hF
  refine TL.eff rfl rfl (eff_call rfl gf_115 rfl (W_spec_l03Name hr9)) ?_
  rintro _ w10 ⟨rfl, hx11⟩
  have he12 : Ext w w10 := Ext.trans he6 hx11
  have hb4 := Box.ext hb4 hx11
  have hz13 := (hx11).size
  refine TL.yld rfl rfl (yld_move rfl rfl) ?_
  refine TL.cut 4 [(1, .pointer (some ⟨b1, 0, none⟩)), (10, .bool ((r8 && (decide (a0_c.Place ≥ 0)))))] (fun w' => Ext w10 w') ?_ ?_
  · rcases Bool.eq_false_or_eq_true r8 with hg14 | hg14
    ·
      refine TL.gy (j := 3) (t := 6) rfl rfl rfl hg14 rfl (yld_fieldAddr rfl fo_75_1 rfl) ?_
      refine TL.gy (j := 3) (t := 6) rfl rfl rfl hg14 rfl (yld_load1 1 rfl ag_2 rfl (Box.cells hb4) rfl rfl) ?_
      refine TL.gy (j := 3) (t := 6) rfl rfl rfl hg14 rfl (yld_geq rfl rfl rfl) ?_
      refine TL.yld rfl rfl (yld_and_t rfl rfl hg14 rfl) ?_
      exact TL.nil fun a h => ⟨h.weaken ⟨rfl, rfl, trivial⟩, Ext.refl _⟩
    ·
      refine TL.gnu (j := 3) (t := 6) rfl rfl rfl hg14 rfl ?_
      refine TL.gnu (j := 3) (t := 6) rfl rfl rfl hg14 rfl ?_
      refine TL.gnu (j := 3) (t := 6) rfl rfl rfl hg14 rfl ?_
      refine TL.yld rfl rfl (yld_and_f (b2 := decide (a0_c.Place ≥ 0)) rfl rfl hg14 rfl) ?_
      exact TL.nil fun a h => ⟨h.weaken ⟨rfl, rfl, trivial⟩, Ext.refl _⟩
  intro w15 hx16
  have he17 : Ext w w15 := Ext.trans he12 hx16
  have hb4 := Box.ext hb4 hx16
  have hz18 := (hx16).size
  refine TL.yld rfl rfl (yld_move rfl rfl) ?_
  obtain ⟨c19, hb20, hF⟩ := bsome hF
  refine TL.cut 4 [(1, .pointer (some ⟨b1, 0, none⟩)), (15, .bool c19)] (fun w' => Ext w15 w') ?_ ?_
  · rcases Bool.eq_false_or_eq_true ((r8 && (decide (a0_c.Place ≥ 0)))) with hg21 | hg21
    ·
      rw [hg21] at hb20; simp only [cond_true, cond_false] at hb20
      replace hF := hb20
      refine TL.gy (j := 8) (t := 11) rfl rfl rfl hg21 rfl (yld_fieldAddr rfl fo_75_8 rfl) ?_
      refine TL.gy (j := 8) (t := 11) rfl rfl rfl hg21 rfl (yld_load1 8 rfl ag_2 rfl (Box.cells hb4) rfl rfl) ?_
      obtain ⟨r22, hr23, hF⟩ := bsome hF
      refine TL.ge (j := 8) (t := 11) rfl rfl rfl hg21 rfl (eff_call rfl gf_52 rfl (W_spec_l01In hr23)) ?_
      rintro _ w24 ⟨rfl, hx25⟩
      have he26 : Ext w w24 := Ext.trans he17 hx25
      have hb4 := Box.ext hb4 hx25
      have hz27 := (hx25).size
      obtain rfl := Option.some.inj hF
      refine TL.yld rfl rfl (yld_pick_t rfl rfl hg21 rfl) ?_
      exact TL.nil fun a h => ⟨h.weaken ⟨rfl, rfl, trivial⟩, hx25⟩
    ·
      rw [hg21] at hb20; simp only [cond_true, cond_false] at hb20
      refine TL.gnu (j := 8) (t := 11) rfl rfl rfl hg21 rfl ?_
      refine TL.gnu (j := 8) (t := 11) rfl rfl rfl hg21 rfl ?_
      refine TL.gnu (j := 8) (t := 11) rfl rfl rfl hg21 rfl ?_
      obtain rfl := Option.some.inj hb20
      refine TL.yld rfl rfl (yld_pick_f rfl rfl hg21 rfl) ?_
      exact TL.nil fun a h => ⟨h.weaken ⟨rfl, rfl, trivial⟩, Ext.refl _⟩
  intro w28 hx29
  have he30 : Ext w w28 := Ext.trans he17 hx29
  have hb4 := Box.ext hb4 hx29
  have hz31 := (hx29).size
  refine TL.yld rfl rfl (yld_move rfl rfl) ?_
  obtain ⟨c32, hb33, hF⟩ := bsome hF
  refine TL.cut 6 [(1, .pointer (some ⟨b1, 0, none⟩)), (22, .bool c32)] (fun w' => Ext w28 w') ?_ ?_
  · rcases Bool.eq_false_or_eq_true c19 with hg34 | hg34
    ·
      rw [hg34] at hb33; simp only [cond_true, cond_false] at hb33
      replace hF := hb33
      refine TL.gy (j := 13) (t := 16) rfl rfl rfl hg34 rfl (yld_fieldAddr rfl fo_75_9 rfl) ?_
      refine TL.gy (j := 13) (t := 16) rfl rfl rfl hg34 rfl (yld_load1 9 rfl ag_2 rfl (Box.cells hb4) rfl rfl) ?_
      refine TL.gy (j := 13) (t := 16) rfl rfl rfl hg34 rfl (yld_fieldAddr rfl fo_75_8 rfl) ?_
      refine TL.gy (j := 13) (t := 16) rfl rfl rfl hg34 rfl (yld_load1 8 rfl ag_2 rfl (Box.cells hb4) rfl rfl) ?_
      obtain ⟨r35, hr36, hF⟩ := bsome hF
      refine TL.ge (j := 13) (t := 16) rfl rfl rfl hg34 rfl (eff_call rfl gf_52 rfl (W_spec_l01In hr36)) ?_
      rintro _ w37 ⟨rfl, hx38⟩
      have he39 : Ext w w37 := Ext.trans he30 hx38
      have hb4 := Box.ext hb4 hx38
      have hz40 := (hx38).size
      obtain rfl := Option.some.inj hF
      refine TL.yld rfl rfl (yld_pick_t rfl rfl hg34 rfl) ?_
      exact TL.nil fun a h => ⟨h.weaken ⟨rfl, rfl, trivial⟩, hx38⟩
    ·
      rw [hg34] at hb33; simp only [cond_true, cond_false] at hb33
      refine TL.gnu (j := 13) (t := 16) rfl rfl rfl hg34 rfl ?_
      refine TL.gnu (j := 13) (t := 16) rfl rfl rfl hg34 rfl ?_
      refine TL.gnu (j := 13) (t := 16) rfl rfl rfl hg34 rfl ?_
      refine TL.gnu (j := 13) (t := 16) rfl rfl rfl hg34 rfl ?_
      refine TL.gnu (j := 13) (t := 16) rfl rfl rfl hg34 rfl ?_
      obtain rfl := Option.some.inj hb33
      refine TL.yld rfl rfl (yld_pick_f rfl rfl hg34 rfl) ?_
      exact TL.nil fun a h => ⟨h.weaken ⟨rfl, rfl, trivial⟩, Ext.refl _⟩
  intro w41 hx42
  have he43 : Ext w w41 := Ext.trans he30 hx42
  have hb4 := Box.ext hb4 hx42
  have hz44 := (hx42).size
  refine TL.yld rfl rfl (yld_move rfl rfl) ?_
  obtain ⟨c45, hb46, hF⟩ := bsome hF
  refine TL.cut 4 [(27, .bool c45)] (fun w' => Ext w41 w') ?_ ?_
  · rcases Bool.eq_false_or_eq_true c32 with hg47 | hg47
    ·
      rw [hg47] at hb46; simp only [cond_true, cond_false] at hb46
      replace hF := hb46
      refine TL.gy (j := 20) (t := 23) rfl rfl rfl hg47 rfl (yld_fieldAddr rfl fo_75_10 rfl) ?_
      refine TL.gy (j := 20) (t := 23) rfl rfl rfl hg47 rfl (yld_load1 10 rfl ag_2 rfl (Box.cells hb4) rfl rfl) ?_
      obtain ⟨r48, hr49, hF⟩ := bsome hF
      refine TL.ge (j := 20) (t := 23) rfl rfl rfl hg47 rfl (eff_call rfl gf_52 rfl (W_spec_l01In hr49)) ?_
      rintro _ w50 ⟨rfl, hx51⟩
      have he52 : Ext w w50 := Ext.trans he43 hx51
      have hb4 := Box.ext hb4 hx51
      have hz53 := (hx51).size
      obtain rfl := Option.some.inj hF
      refine TL.yld rfl rfl (yld_pick_t rfl rfl hg47 rfl) ?_
      exact TL.nil fun a h => ⟨h.weaken ⟨rfl, trivial⟩, hx51⟩
    ·
      rw [hg47] at hb46; simp only [cond_true, cond_false] at hb46
      refine TL.gnu (j := 20) (t := 23) rfl rfl rfl hg47 rfl ?_
      refine TL.gnu (j := 20) (t := 23) rfl rfl rfl hg47 rfl ?_
      refine TL.gnu (j := 20) (t := 23) rfl rfl rfl hg47 rfl ?_
      obtain rfl := Option.some.inj hb46
      refine TL.yld rfl rfl (yld_pick_f rfl rfl hg47 rfl) ?_
      exact TL.nil fun a h => ⟨h.weaken ⟨rfl, trivial⟩, Ext.refl _⟩
  intro w54 hx55
  have he56 : Ext w w54 := Ext.trans he43 hx55
  have hb4 := Box.ext hb4 hx55
  have hz57 := (hx55).size
  refine TL.yld rfl rfl (yld_assign rfl rfl) ?_
  refine TL.done ?_
  refine NX.seq ?_
  refine WC.ret' ?_
  obtain rfl := Option.some.inj hF
  exact NX.end (rs := [.tmp 2]) (vs := [.bool c45]) rfl ⟨rfl, trivial⟩ ⟨_, rfl, rfl, he56⟩

-- loop.example/g00861/spec.l14Primary
def F_spec_l14Primary (n : Nat) (a0_c : S_Clock) : Option Bool := (Option.bind (F_spec_l01In n a0_c.Period 2 100000) fun r8 => (Option.bind (bif r8 then (Option.bind (F_spec_l01In n a0_c.RiseAt 0 (IntKind.wrap IntKind.i64 (a0_c.Period - 1))) fun r14 => (some r14)) else (some false)) fun c14 => (Option.bind (bif c14 then (Option.bind (F_spec_l01In n a0_c.FallAt 0 (IntKind.wrap IntKind.i64 (a0_c.Period - 1))) fun r27 => (some r27)) else (some false)) fun c27 => (some ((((((c27 && ((a0_c.RiseAt != a0_c.FallAt)))) && ((a0_c.Divide == 1)))) && (!a0_c.Invert)))))))
set_option maxHeartbeats 40000000 in
theorem W_spec_l14Primary {n : Nat} {a0_c : S_Clock} {r : Bool} {w : World} (hF : F_spec_l14Primary n a0_c = some r) :
    Calls Tryd.prog 130 [.agg #[.string a0_c.Name, .int .i64 a0_c.Place, .int .i64 a0_c.Period, .int .i64 a0_c.RiseAt, .int .i64 a0_c.FallAt, .int .i64 a0_c.Source, .int .i64 a0_c.Divide, .bool a0_c.Invert, .int .i64 a0_c.EarlyLatency, .int .i64 a0_c.LateLatency, .int .i64 a0_c.Uncertainty]].toArray w (Ret fun u w2 => u = .bool r ∧ Ext w w2) := by
  refine calls_of Tryd.func130 rfl Tryd.ntmps130 ?_
  have he0 : Ext w w := Ext.refl w
  unfold F_spec_l14Primary at hF
  refine WC.seq ?_
  refine WC.region ?_
  refine TL.eff rfl rfl (eff_box rfl rfl) ?_
  rintro _ w2 ⟨b1, rfl, hn3⟩
  obtain ⟨hn3e, hn3s, hn3x, hb4⟩ := hn3
  have hb4 : Box w2 b1 [.string a0_c.Name, .int .i64 a0_c.Place, .int .i64 a0_c.Period, .int .i64 a0_c.RiseAt, .int .i64 a0_c.FallAt, .int .i64 a0_c.Source, .int .i64 a0_c.Divide, .bool a0_c.Invert, .int .i64 a0_c.EarlyLatency, .int .i64 a0_c.LateLatency, .int .i64 a0_c.Uncertainty] 75 := hb4
  have he6 : Ext w w2 := Ext.trans he0 hn3x
  have hz7 := (hn3x).size
  have hlo5 : w.heap.size ≤ b1 := by rw [hn3e]; exact (he0).size
  refine TL.yld rfl rfl (yld_assign rfl rfl) ?_
  refine TL.done ?_
  refine NX.seq ?_
  refine WC.seq ?_
  refine WC.region ?_
  refine TL.yld rfl rfl (yld_fieldAddr rfl fo_75_2 rfl) ?_
  refine TL.yld rfl rfl (yld_load1 2 rfl ag_2 rfl (Box.cells hb4) rfl rfl) ?_
  obtain ⟨r8, hr9, hF⟩ := bsome hF
  refine TL.eff rfl rfl (eff_call rfl gf_52 rfl (W_spec_l01In hr9)) ?_
  rintro _ w10 ⟨rfl, hx11⟩
  have he12 : Ext w w10 := Ext.trans he6 hx11
  have hb4 := Box.ext hb4 hx11
  have hz13 := (hx11).size
  refine TL.yld rfl rfl (yld_move rfl rfl) ?_
  obtain ⟨c14, hb15, hF⟩ := bsome hF
  refine TL.cut 7 [(1, .pointer (some ⟨b1, 0, none⟩)), (13, .bool c14)] (fun w' => Ext w10 w') ?_ ?_
  · rcases Bool.eq_false_or_eq_true r8 with hg16 | hg16
    ·
      rw [hg16] at hb15; simp only [cond_true, cond_false] at hb15
      replace hF := hb15
      refine TL.gy (j := 3) (t := 6) rfl rfl rfl hg16 rfl (yld_fieldAddr rfl fo_75_3 rfl) ?_
      refine TL.gy (j := 3) (t := 6) rfl rfl rfl hg16 rfl (yld_load1 3 rfl ag_2 rfl (Box.cells hb4) rfl rfl) ?_
      refine TL.gy (j := 3) (t := 6) rfl rfl rfl hg16 rfl (yld_fieldAddr rfl fo_75_2 rfl) ?_
      refine TL.gy (j := 3) (t := 6) rfl rfl rfl hg16 rfl (yld_load1 2 rfl ag_2 rfl (Box.cells hb4) rfl rfl) ?_
      refine TL.gy (j := 3) (t := 6) rfl rfl rfl hg16 rfl (yld_sub rfl rfl rfl) ?_
      obtain ⟨r17, hr18, hF⟩ := bsome hF
      refine TL.ge (j := 3) (t := 6) rfl rfl rfl hg16 rfl (eff_call rfl gf_52 rfl (W_spec_l01In hr18)) ?_
      rintro _ w19 ⟨rfl, hx20⟩
      have he21 : Ext w w19 := Ext.trans he12 hx20
      have hb4 := Box.ext hb4 hx20
      have hz22 := (hx20).size
      obtain rfl := Option.some.inj hF
      refine TL.yld rfl rfl (yld_pick_t rfl rfl hg16 rfl) ?_
      exact TL.nil fun a h => ⟨h.weaken ⟨rfl, rfl, trivial⟩, hx20⟩
    ·
      rw [hg16] at hb15; simp only [cond_true, cond_false] at hb15
      refine TL.gnu (j := 3) (t := 6) rfl rfl rfl hg16 rfl ?_
      refine TL.gnu (j := 3) (t := 6) rfl rfl rfl hg16 rfl ?_
      refine TL.gnu (j := 3) (t := 6) rfl rfl rfl hg16 rfl ?_
      refine TL.gnu (j := 3) (t := 6) rfl rfl rfl hg16 rfl ?_
      refine TL.gnu (j := 3) (t := 6) rfl rfl rfl hg16 rfl ?_
      refine TL.gnu (j := 3) (t := 6) rfl rfl rfl hg16 rfl ?_
      obtain rfl := Option.some.inj hb15
      refine TL.yld rfl rfl (yld_pick_f rfl rfl hg16 rfl) ?_
      exact TL.nil fun a h => ⟨h.weaken ⟨rfl, rfl, trivial⟩, Ext.refl _⟩
  intro w23 hx24
  have he25 : Ext w w23 := Ext.trans he12 hx24
  have hb4 := Box.ext hb4 hx24
  have hz26 := (hx24).size
  refine TL.yld rfl rfl (yld_move rfl rfl) ?_
  obtain ⟨c27, hb28, hF⟩ := bsome hF
  refine TL.cut 7 [(1, .pointer (some ⟨b1, 0, none⟩)), (21, .bool c27)] (fun w' => Ext w23 w') ?_ ?_
  · rcases Bool.eq_false_or_eq_true c14 with hg29 | hg29
    ·
      rw [hg29] at hb28; simp only [cond_true, cond_false] at hb28
      replace hF := hb28
      refine TL.gy (j := 11) (t := 14) rfl rfl rfl hg29 rfl (yld_fieldAddr rfl fo_75_4 rfl) ?_
      refine TL.gy (j := 11) (t := 14) rfl rfl rfl hg29 rfl (yld_load1 4 rfl ag_2 rfl (Box.cells hb4) rfl rfl) ?_
      refine TL.gy (j := 11) (t := 14) rfl rfl rfl hg29 rfl (yld_fieldAddr rfl fo_75_2 rfl) ?_
      refine TL.gy (j := 11) (t := 14) rfl rfl rfl hg29 rfl (yld_load1 2 rfl ag_2 rfl (Box.cells hb4) rfl rfl) ?_
      refine TL.gy (j := 11) (t := 14) rfl rfl rfl hg29 rfl (yld_sub rfl rfl rfl) ?_
      obtain ⟨r30, hr31, hF⟩ := bsome hF
      refine TL.ge (j := 11) (t := 14) rfl rfl rfl hg29 rfl (eff_call rfl gf_52 rfl (W_spec_l01In hr31)) ?_
      rintro _ w32 ⟨rfl, hx33⟩
      have he34 : Ext w w32 := Ext.trans he25 hx33
      have hb4 := Box.ext hb4 hx33
      have hz35 := (hx33).size
      obtain rfl := Option.some.inj hF
      refine TL.yld rfl rfl (yld_pick_t rfl rfl hg29 rfl) ?_
      exact TL.nil fun a h => ⟨h.weaken ⟨rfl, rfl, trivial⟩, hx33⟩
    ·
      rw [hg29] at hb28; simp only [cond_true, cond_false] at hb28
      refine TL.gnu (j := 11) (t := 14) rfl rfl rfl hg29 rfl ?_
      refine TL.gnu (j := 11) (t := 14) rfl rfl rfl hg29 rfl ?_
      refine TL.gnu (j := 11) (t := 14) rfl rfl rfl hg29 rfl ?_
      refine TL.gnu (j := 11) (t := 14) rfl rfl rfl hg29 rfl ?_
      refine TL.gnu (j := 11) (t := 14) rfl rfl rfl hg29 rfl ?_
      refine TL.gnu (j := 11) (t := 14) rfl rfl rfl hg29 rfl ?_
      obtain rfl := Option.some.inj hb28
      refine TL.yld rfl rfl (yld_pick_f rfl rfl hg29 rfl) ?_
      exact TL.nil fun a h => ⟨h.weaken ⟨rfl, rfl, trivial⟩, Ext.refl _⟩
  intro w36 hx37
  have he38 : Ext w w36 := Ext.trans he25 hx37
  have hb4 := Box.ext hb4 hx37
  have hz39 := (hx37).size
  refine TL.yld rfl rfl (yld_move rfl rfl) ?_
  refine TL.cut 6 [(1, .pointer (some ⟨b1, 0, none⟩)), (28, .bool ((c27 && ((a0_c.RiseAt != a0_c.FallAt)))))] (fun w' => Ext w36 w') ?_ ?_
  · rcases Bool.eq_false_or_eq_true c27 with hg40 | hg40
    ·
      refine TL.gy (j := 19) (t := 22) rfl rfl rfl hg40 rfl (yld_fieldAddr rfl fo_75_3 rfl) ?_
      refine TL.gy (j := 19) (t := 22) rfl rfl rfl hg40 rfl (yld_load1 3 rfl ag_2 rfl (Box.cells hb4) rfl rfl) ?_
      refine TL.gy (j := 19) (t := 22) rfl rfl rfl hg40 rfl (yld_fieldAddr rfl fo_75_4 rfl) ?_
      refine TL.gy (j := 19) (t := 22) rfl rfl rfl hg40 rfl (yld_load1 4 rfl ag_2 rfl (Box.cells hb4) rfl rfl) ?_
      refine TL.gy (j := 19) (t := 22) rfl rfl rfl hg40 rfl (yld_neq rfl rfl rfl) ?_
      refine TL.yld rfl rfl (yld_and_t rfl rfl hg40 rfl) ?_
      exact TL.nil fun a h => ⟨h.weaken ⟨rfl, rfl, trivial⟩, Ext.refl _⟩
    ·
      refine TL.gnu (j := 19) (t := 22) rfl rfl rfl hg40 rfl ?_
      refine TL.gnu (j := 19) (t := 22) rfl rfl rfl hg40 rfl ?_
      refine TL.gnu (j := 19) (t := 22) rfl rfl rfl hg40 rfl ?_
      refine TL.gnu (j := 19) (t := 22) rfl rfl rfl hg40 rfl ?_
      refine TL.gnu (j := 19) (t := 22) rfl rfl rfl hg40 rfl ?_
      refine TL.yld rfl rfl (yld_and_f (b2 := (a0_c.RiseAt != a0_c.FallAt)) rfl rfl hg40 rfl) ?_
      exact TL.nil fun a h => ⟨h.weaken ⟨rfl, rfl, trivial⟩, Ext.refl _⟩
  intro w41 hx42
  have he43 : Ext w w41 := Ext.trans he38 hx42
  have hb4 := Box.ext hb4 hx42
  have hz44 := (hx42).size
  refine TL.yld rfl rfl (yld_move rfl rfl) ?_
  refine TL.cut 4 [(1, .pointer (some ⟨b1, 0, none⟩)), (33, .bool ((((c27 && ((a0_c.RiseAt != a0_c.FallAt)))) && ((a0_c.Divide == 1)))))] (fun w' => Ext w41 w') ?_ ?_
  · rcases Bool.eq_false_or_eq_true ((c27 && ((a0_c.RiseAt != a0_c.FallAt)))) with hg45 | hg45
    ·
      refine TL.gy (j := 26) (t := 29) rfl rfl rfl hg45 rfl (yld_fieldAddr rfl fo_75_6 rfl) ?_
      refine TL.gy (j := 26) (t := 29) rfl rfl rfl hg45 rfl (yld_load1 6 rfl ag_2 rfl (Box.cells hb4) rfl rfl) ?_
      refine TL.gy (j := 26) (t := 29) rfl rfl rfl hg45 rfl (yld_eql rfl rfl rfl) ?_
      refine TL.yld rfl rfl (yld_and_t rfl rfl hg45 rfl) ?_
      exact TL.nil fun a h => ⟨h.weaken ⟨rfl, rfl, trivial⟩, Ext.refl _⟩
    ·
      refine TL.gnu (j := 26) (t := 29) rfl rfl rfl hg45 rfl ?_
      refine TL.gnu (j := 26) (t := 29) rfl rfl rfl hg45 rfl ?_
      refine TL.gnu (j := 26) (t := 29) rfl rfl rfl hg45 rfl ?_
      refine TL.yld rfl rfl (yld_and_f (b2 := (a0_c.Divide == 1)) rfl rfl hg45 rfl) ?_
      exact TL.nil fun a h => ⟨h.weaken ⟨rfl, rfl, trivial⟩, Ext.refl _⟩
  intro w46 hx47
  have he48 : Ext w w46 := Ext.trans he43 hx47
  have hb4 := Box.ext hb4 hx47
  have hz49 := (hx47).size
  refine TL.yld rfl rfl (yld_move rfl rfl) ?_
  refine TL.cut 4 [(38, .bool ((((((c27 && ((a0_c.RiseAt != a0_c.FallAt)))) && ((a0_c.Divide == 1)))) && (!a0_c.Invert))))] (fun w' => Ext w46 w') ?_ ?_
  · rcases Bool.eq_false_or_eq_true ((((c27 && ((a0_c.RiseAt != a0_c.FallAt)))) && ((a0_c.Divide == 1)))) with hg50 | hg50
    ·
      refine TL.gy (j := 31) (t := 34) rfl rfl rfl hg50 rfl (yld_fieldAddr rfl fo_75_7 rfl) ?_
      refine TL.gy (j := 31) (t := 34) rfl rfl rfl hg50 rfl (yld_load1 7 rfl ag_4 rfl (Box.cells hb4) rfl rfl) ?_
      refine TL.gy (j := 31) (t := 34) rfl rfl rfl hg50 rfl (yld_not rfl rfl) ?_
      refine TL.yld rfl rfl (yld_and_t rfl rfl hg50 rfl) ?_
      exact TL.nil fun a h => ⟨h.weaken ⟨rfl, trivial⟩, Ext.refl _⟩
    ·
      refine TL.gnu (j := 31) (t := 34) rfl rfl rfl hg50 rfl ?_
      refine TL.gnu (j := 31) (t := 34) rfl rfl rfl hg50 rfl ?_
      refine TL.gnu (j := 31) (t := 34) rfl rfl rfl hg50 rfl ?_
      refine TL.yld rfl rfl (yld_and_f (b2 := (!a0_c.Invert)) rfl rfl hg50 rfl) ?_
      exact TL.nil fun a h => ⟨h.weaken ⟨rfl, trivial⟩, Ext.refl _⟩
  intro w51 hx52
  have he53 : Ext w w51 := Ext.trans he48 hx52
  have hb4 := Box.ext hb4 hx52
  have hz54 := (hx52).size
  refine TL.yld rfl rfl (yld_assign rfl rfl) ?_
  refine TL.done ?_
  refine NX.seq ?_
  refine WC.ret' ?_
  obtain rfl := Option.some.inj hF
  exact NX.end (rs := [.tmp 2]) (vs := [.bool ((((((c27 && ((a0_c.RiseAt != a0_c.FallAt)))) && ((a0_c.Divide == 1)))) && (!a0_c.Invert)))]) rfl ⟨rfl, trivial⟩ ⟨_, rfl, rfl, he53⟩

-- loop.example/g00861/spec.IsClocks
def F_spec_IsClocks_L2 (a0_list : List S_Clock) (i5 : Int) (x12 : S_Clock) (k2 : Int → Option Bool) : Nat → Int → Option Bool
  | 0 => fun _ => none
  | m + 1 => fun i42 => (bif decide (i42 < i5) then (Option.bind (getI a0_list i42) fun x45 => (bif (x45.Name.toList == x12.Name.toList) then (some false) else (F_spec_IsClocks_L2 a0_list i5 x12 k2 m (IntKind.wrap IntKind.i64 (i42 + 1))))) else (k2 i42))
theorem F_spec_IsClocks_L2_z (a0_list : List S_Clock) (i5 : Int) (x12 : S_Clock) (k2 : Int → Option Bool) (i42 : Int) : F_spec_IsClocks_L2 a0_list i5 x12 k2 0 i42 = none := rfl
theorem F_spec_IsClocks_L2_s (m : Nat) (a0_list : List S_Clock) (i5 : Int) (x12 : S_Clock) (k2 : Int → Option Bool) (i42 : Int) : F_spec_IsClocks_L2 a0_list i5 x12 k2 (m + 1) i42 = (bif decide (i42 < i5) then (Option.bind (getI a0_list i42) fun x45 => (bif (x45.Name.toList == x12.Name.toList) then (some false) else (F_spec_IsClocks_L2 a0_list i5 x12 k2 m (IntKind.wrap IntKind.i64 (i42 + 1))))) else (k2 i42)) := rfl

def F_spec_IsClocks_L1 (n : Nat) (a0_list : List S_Clock) (k0 : Int → Option Bool) : Nat → Int → Option Bool
  | 0 => fun _ => none
  | m + 1 => fun i5 => (bif ((decide (i5 < (a0_list.length : Int))) && (decide ((a0_list.length : Int) ≤ 6))) then (Option.bind (getI a0_list i5) fun x12 => (Option.bind (F_spec_l14Plain n x12) fun r32 => (bif (!r32) then (some false) else (F_spec_IsClocks_L2 a0_list i5 x12 (fun i42 => (bif (x12.Source == (-1)) then (Option.bind (F_spec_l14Primary n x12) fun r45 => (bif (!r45) then (some false) else (F_spec_IsClocks_L1 n a0_list k0 m (IntKind.wrap IntKind.i64 (i5 + 1))))) else (Option.bind (F_spec_l01In n x12.Source 0 (IntKind.wrap IntKind.i64 (i5 - 1))) fun r54 => (Option.bind (bif (!r54) then (some true) else (Option.bind (F_spec_l01In n x12.Divide 1 8) fun r60 => (some (!r60)))) fun c60 => (Option.bind (bif (((((c60 || ((x12.Period != 0)))) || ((x12.RiseAt != 0)))) || ((x12.FallAt != 0))) then (some true) else (Option.bind (F_spec_l14Of n a0_list i5) fun r88 => (some (decide (r88.period_ > 100000))))) fun c88 => (bif c88 then (some false) else (F_spec_IsClocks_L1 n a0_list k0 m (IntKind.wrap IntKind.i64 (i5 + 1))))))))) n 0)))) else (k0 i5))
theorem F_spec_IsClocks_L1_z (n : Nat) (a0_list : List S_Clock) (k0 : Int → Option Bool) (i5 : Int) : F_spec_IsClocks_L1 n a0_list k0 0 i5 = none := rfl
theorem F_spec_IsClocks_L1_s (m : Nat) (n : Nat) (a0_list : List S_Clock) (k0 : Int → Option Bool) (i5 : Int) : F_spec_IsClocks_L1 n a0_list k0 (m + 1) i5 = (bif ((decide (i5 < (a0_list.length : Int))) && (decide ((a0_list.length : Int) ≤ 6))) then (Option.bind (getI a0_list i5) fun x12 => (Option.bind (F_spec_l14Plain n x12) fun r32 => (bif (!r32) then (some false) else (F_spec_IsClocks_L2 a0_list i5 x12 (fun i42 => (bif (x12.Source == (-1)) then (Option.bind (F_spec_l14Primary n x12) fun r45 => (bif (!r45) then (some false) else (F_spec_IsClocks_L1 n a0_list k0 m (IntKind.wrap IntKind.i64 (i5 + 1))))) else (Option.bind (F_spec_l01In n x12.Source 0 (IntKind.wrap IntKind.i64 (i5 - 1))) fun r54 => (Option.bind (bif (!r54) then (some true) else (Option.bind (F_spec_l01In n x12.Divide 1 8) fun r60 => (some (!r60)))) fun c60 => (Option.bind (bif (((((c60 || ((x12.Period != 0)))) || ((x12.RiseAt != 0)))) || ((x12.FallAt != 0))) then (some true) else (Option.bind (F_spec_l14Of n a0_list i5) fun r88 => (some (decide (r88.period_ > 100000))))) fun c88 => (bif c88 then (some false) else (F_spec_IsClocks_L1 n a0_list k0 m (IntKind.wrap IntKind.i64 (i5 + 1))))))))) n 0)))) else (k0 i5)) := rfl

def F_spec_IsClocks (n : Nat) (a0_list : List S_Clock) : Option Bool := (F_spec_IsClocks_L1 n a0_list (fun i5 => (some (decide ((a0_list.length : Int) ≤ 6)))) n 0)
set_option maxHeartbeats 40000000 in
theorem W_spec_IsClocks {n : Nat} {a0_list : List S_Clock} {r : Bool} {w : World} {v1 : Value} (hF : F_spec_IsClocks n a0_list = some r) (ha2 : slRep C_Clock w (Iv 0 w.heap.size) a0_list v1) :
    Calls Tryd.prog 93 [v1].toArray w (Ret fun u w2 => u = .bool r ∧ Ext w w2) := by
  refine calls_of Tryd.func93 rfl Tryd.ntmps93 ?_
  have he0 : Ext w w := Ext.refl w
  unfold F_spec_IsClocks at hF
  refine WC.seq ?_
  refine WC.region ?_
  refine TL.yld rfl rfl (yld_assign rfl rfl) ?_
  refine TL.done ?_
  refine NX.seq ?_
  refine WC.seq ?_
  refine WC.seq ?_
  refine WC.region ?_
  refine TL.yld rfl rfl (yld_assign rfl rfl) ?_
  refine TL.done ?_
  refine NX.seq ?_
  refine WC.block ?_
  refine WC.loop (fun m6 a wl => ∃ (i5 : Int), Kn 80 [(0, v1), (3, .int .i64 i5)] a ∧ Ext w wl ∧ w.heap.size ≤ wl.heap.size ∧ F_spec_IsClocks_L1 n a0_list (fun i5 => (some (decide ((a0_list.length : Int) ≤ 6)))) m6 i5 = some r) n ?_ ?_
  · intro a hK; exact ⟨0, hK.weaken ⟨rfl, rfl, trivial⟩, he0, Nat.le_refl _, hF⟩
  · rintro m6 a w3 ⟨i5, hK, he4, hz7, hF⟩
    revert hK; revert a; refine (?_ : WC _ _ _ _ _ _)
    cases m6 with
    | zero => rw [F_spec_IsClocks_L1_z] at hF; cases hF
    | succ m6 =>
      rw [F_spec_IsClocks_L1_s] at hF
      refine WC.seq ?_
      refine WC.seq ?_
      refine WC.region ?_
      refine TL.yld rfl rfl (yld_move rfl rfl) ?_
      refine TL.yld rfl rfl (yld_move rfl rfl) ?_
      refine TL.yld rfl rfl (ye_len (c := C_Clock) rfl Tryd.underlying26 rfl (slRep.old ha2 he4 (Nat.le_refl _))) ?_
      refine TL.yld rfl rfl (yld_lss rfl rfl rfl) ?_
      refine TL.yld rfl rfl (yld_move rfl rfl) ?_
      refine TL.cut 4 [(0, v1), (3, .int .i64 i5), (14, .bool (((decide (i5 < (a0_list.length : Int))) && (decide ((a0_list.length : Int) ≤ 6)))))] (fun w' => Ext w3 w') ?_ ?_
      · rcases Bool.eq_false_or_eq_true (decide (i5 < (a0_list.length : Int))) with hg8 | hg8
        ·
          refine TL.gy (j := 4) (t := 10) rfl rfl rfl hg8 rfl (yld_move rfl rfl) ?_
          refine TL.gy (j := 4) (t := 10) rfl rfl rfl hg8 rfl (ye_len (c := C_Clock) rfl Tryd.underlying26 rfl (slRep.old ha2 he4 (Nat.le_refl _))) ?_
          refine TL.gy (j := 4) (t := 10) rfl rfl rfl hg8 rfl (yld_leq rfl rfl rfl) ?_
          refine TL.yld rfl rfl (yld_and_t rfl rfl hg8 rfl) ?_
          exact TL.nil fun a h => ⟨h.weaken ⟨rfl, rfl, rfl, trivial⟩, Ext.refl _⟩
        ·
          refine TL.gnu (j := 4) (t := 10) rfl rfl rfl hg8 rfl ?_
          refine TL.gnu (j := 4) (t := 10) rfl rfl rfl hg8 rfl ?_
          refine TL.gnu (j := 4) (t := 10) rfl rfl rfl hg8 rfl ?_
          refine TL.yld rfl rfl (yld_and_f (b2 := decide ((a0_list.length : Int) ≤ 6)) rfl rfl hg8 rfl) ?_
          exact TL.nil fun a h => ⟨h.weaken ⟨rfl, rfl, rfl, trivial⟩, Ext.refl _⟩
      intro w9 hx10
      have he11 : Ext w w9 := Ext.trans he4 hx10
      have hz12 := (hx10).size
      refine TL.done ?_
      refine NX.seq ?_
      refine WC.cond rfl ?_ ?_
      · intro hc13
        replace hF := bif_t hc13 hF
        refine WC.skip' ?_
        refine NX.seq ?_
        refine WC.seq ?_
        refine WC.block ?_
        refine WC.seq ?_
        refine WC.region ?_
        refine TL.yld rfl rfl (yld_move rfl rfl) ?_
        refine TL.yld rfl rfl (yld_move rfl rfl) ?_
        obtain ⟨x14, hy15, hF⟩ := bsome hF
        refine TL.ye rfl rfl (ye_index (c := C_Clock) rfl Tryd.underlying26 cn_75 rfl rfl (slRep.old ha2 he11 (Nat.le_refl _)) hy15) ?_
        rintro _ ⟨b16, o17, us18, rfl, hib21, hr19, hcl20⟩
        have hib21 : 0 ≤ b16 ∧ b16 < w.heap.size := ⟨hib21.1, by have := hib21.2; omega⟩
        obtain rfl := C_Clock_open hr19
        refine TL.yld rfl rfl (yld_loadN (us := [.string x14.Name, .int .i64 x14.Place, .int .i64 x14.Period, .int .i64 x14.RiseAt, .int .i64 x14.FallAt, .int .i64 x14.Source, .int .i64 x14.Divide, .bool x14.Invert, .int .i64 x14.EarlyLatency, .int .i64 x14.LateLatency, .int .i64 x14.Uncertainty]) rfl ag_75 rfl hcl20 cn_75) ?_
        refine TL.eff rfl rfl (eff_alloc rfl zn_75) ?_
        rintro _ w23 ⟨b22, rfl, hn24⟩
        obtain ⟨hn24e, hn24s, hn24x, hb25⟩ := hn24
        have hb25 : Box w23 b22 [.string ByteArray.empty, .int .i64 0, .int .i64 0, .int .i64 0, .int .i64 0, .int .i64 0, .int .i64 0, .bool false, .int .i64 0, .int .i64 0, .int .i64 0] 75 := hb25
        have he27 : Ext w w23 := Ext.trans he11 hn24x
        have hz28 := (hn24x).size
        have hlo26 : w.heap.size ≤ b22 := by rw [hn24e]; exact (he11).size
        refine TL.eff rfl rfl (eff_store rfl rfl rfl hb25 cn_75 rfl rfl) ?_
        rintro _ w29 ⟨hu30, hb31⟩
        have he32 : Ext w w29 := Below.trans he27 (Upd.below hu30 (by omega))
        have hz33 := (hu30).size
        have hb25 : Box w29 b22 [.string x14.Name, .int .i64 x14.Place, .int .i64 x14.Period, .int .i64 x14.RiseAt, .int .i64 x14.FallAt, .int .i64 x14.Source, .int .i64 x14.Divide, .bool x14.Invert, .int .i64 x14.EarlyLatency, .int .i64 x14.LateLatency, .int .i64 x14.Uncertainty] 75 := hb31
        refine TL.done ?_
        refine NX.seq ?_
        refine WC.seq ?_
        refine WC.seq ?_
        refine WC.region ?_
        refine TL.yld rfl rfl (yld_loadN (us := [.string x14.Name, .int .i64 x14.Place, .int .i64 x14.Period, .int .i64 x14.RiseAt, .int .i64 x14.FallAt, .int .i64 x14.Source, .int .i64 x14.Divide, .bool x14.Invert, .int .i64 x14.EarlyLatency, .int .i64 x14.LateLatency, .int .i64 x14.Uncertainty]) rfl ag_75 rfl (Box.cells hb25) cn_75) ?_
        obtain ⟨r34, hr35, hF⟩ := bsome hF
        refine TL.eff rfl rfl (eff_call rfl gf_129 rfl (W_spec_l14Plain hr35)) ?_
        rintro _ w36 ⟨rfl, hx37⟩
        have he38 : Ext w w36 := Ext.trans he32 hx37
        have hb25 := Box.ext hb25 hx37
        have hz39 := (hx37).size
        refine TL.yld rfl rfl (yld_not rfl rfl) ?_
        refine TL.done ?_
        refine NX.seq ?_
        refine WC.cond rfl ?_ ?_
        · intro hc40
          replace hF := bif_t hc40 hF
          refine WC.seq ?_
          refine WC.region ?_
          refine TL.yld rfl rfl (yld_assign rfl rfl) ?_
          refine TL.done ?_
          refine NX.seq ?_
          refine WC.ret' ?_
          refine NX.then_r ?_
          refine NX.blk_r ?_
          refine NX.then_r ?_
          refine NX.then_r ?_
          refine NX.blk_r ?_
          refine NX.then_r ?_
          obtain rfl := Option.some.inj hF
          exact NX.end (rs := [.tmp 2]) (vs := [.bool false]) rfl ⟨rfl, trivial⟩ ⟨_, rfl, rfl, he38⟩
        · intro hc41
          replace hF := bif_f hc41 hF
          refine WC.skip' ?_
          refine NX.seq ?_
          refine WC.seq ?_
          refine WC.seq ?_
          refine WC.region ?_
          refine TL.yld rfl rfl (yld_assign rfl rfl) ?_
          refine TL.done ?_
          refine NX.seq ?_
          refine WC.block ?_
          refine WC.loop (fun m46 a wl => ∃ (i44 : Int), Kn 80 [(0, v1), (3, .int .i64 i5), (4, .pointer (some ⟨b22, 0, none⟩)), (5, .int .i64 i44)] a ∧ Ext w wl ∧ w36.heap.size ≤ wl.heap.size ∧ Box wl b22 [.string x14.Name, .int .i64 x14.Place, .int .i64 x14.Period, .int .i64 x14.RiseAt, .int .i64 x14.FallAt, .int .i64 x14.Source, .int .i64 x14.Divide, .bool x14.Invert, .int .i64 x14.EarlyLatency, .int .i64 x14.LateLatency, .int .i64 x14.Uncertainty] 75 ∧ F_spec_IsClocks_L2 a0_list i5 x14 (fun i44 => (bif (x14.Source == (-1)) then (Option.bind (F_spec_l14Primary n x14) fun r47 => (bif (!r47) then (some false) else (F_spec_IsClocks_L1 n a0_list (fun i5 => (some (decide ((a0_list.length : Int) ≤ 6)))) m6 (IntKind.wrap IntKind.i64 (i5 + 1))))) else (Option.bind (F_spec_l01In n x14.Source 0 (IntKind.wrap IntKind.i64 (i5 - 1))) fun r56 => (Option.bind (bif (!r56) then (some true) else (Option.bind (F_spec_l01In n x14.Divide 1 8) fun r62 => (some (!r62)))) fun c62 => (Option.bind (bif (((((c62 || ((x14.Period != 0)))) || ((x14.RiseAt != 0)))) || ((x14.FallAt != 0))) then (some true) else (Option.bind (F_spec_l14Of n a0_list i5) fun r90 => (some (decide (r90.period_ > 100000))))) fun c90 => (bif c90 then (some false) else (F_spec_IsClocks_L1 n a0_list (fun i5 => (some (decide ((a0_list.length : Int) ≤ 6)))) m6 (IntKind.wrap IntKind.i64 (i5 + 1))))))))) m46 i44 = some r) n ?_ ?_
          · intro a hK; exact ⟨0, hK.weaken ⟨rfl, rfl, rfl, rfl, trivial⟩, he38, Nat.le_refl _, hb25, hF⟩
          · rintro m46 a w42 ⟨i44, hK, he43, hz47, hb45, hF⟩
            revert hK; revert a; refine (?_ : WC _ _ _ _ _ _)
            cases m46 with
            | zero => rw [F_spec_IsClocks_L2_z] at hF; cases hF
            | succ m46 =>
              rw [F_spec_IsClocks_L2_s] at hF
              refine WC.seq ?_
              refine WC.seq ?_
              refine WC.region ?_
              refine TL.yld rfl rfl (yld_move rfl rfl) ?_
              refine TL.yld rfl rfl (yld_move rfl rfl) ?_
              refine TL.yld rfl rfl (yld_lss rfl rfl rfl) ?_
              refine TL.done ?_
              refine NX.seq ?_
              refine WC.cond rfl ?_ ?_
              · intro hc48
                replace hF := bif_t hc48 hF
                refine WC.skip' ?_
                refine NX.seq ?_
                refine WC.seq ?_
                refine WC.block ?_
                refine WC.seq ?_
                refine WC.quiet Tryd.hm (by kernel_rfl) ?_
                refine QL.yld rfl rfl (Yld.qui (yld_move rfl rfl)) ?_
                refine QL.yld rfl rfl (Yld.qui (yld_move rfl rfl)) ?_
                obtain ⟨x49, hy50, hF⟩ := bsome hF
                refine QL.ye rfl rfl (ye_index (c := C_Clock) rfl Tryd.underlying26 cn_75 rfl rfl (slRep.old ha2 he43 (Nat.le_refl _)) hy50) ?_
                rintro _ ⟨b51, o52, us53, rfl, hib56, hr54, hcl55⟩
                have hib56 : 0 ≤ b51 ∧ b51 < w.heap.size := ⟨hib56.1, by have := hib56.2; omega⟩
                obtain rfl := C_Clock_open hr54
                refine QL.yld rfl rfl (Yld.qui (yld_fieldAddr rfl fo_75_0 rfl)) ?_
                refine QL.yld rfl rfl (Yld.qui (yld_load1 0 rfl ag_9 rfl hcl55 rfl rfl)) ?_
                refine QL.yld rfl rfl (Yld.qui (yld_fieldAddr rfl fo_75_0 rfl)) ?_
                refine QL.yld rfl rfl (Yld.qui (yld_load1 0 rfl ag_9 rfl (Box.cells hb45) rfl rfl)) ?_
                refine QL.yld rfl rfl (Yld.qui (yld_eqs rfl rfl rfl)) ?_
                refine QL.done fun w57 hx58 => ?_
                have he59 : Ext w w57 := Ext.trans he43 hx58
                have hb45 := Box.ext hb45 hx58
                have hz60 := (hx58).size
                refine NX.seq ?_
                refine WC.cond rfl ?_ ?_
                · intro hc61
                  replace hF := bif_t hc61 hF
                  refine WC.seq ?_
                  refine WC.region ?_
                  refine TL.yld rfl rfl (yld_assign rfl rfl) ?_
                  refine TL.done ?_
                  refine NX.seq ?_
                  refine WC.ret' ?_
                  refine NX.blk_r ?_
                  refine NX.then_r ?_
                  refine NX.then_r ?_
                  refine NX.blk_r ?_
                  refine NX.then_r ?_
                  refine NX.blk_r ?_
                  refine NX.then_r ?_
                  refine NX.then_r ?_
                  refine NX.blk_r ?_
                  refine NX.then_r ?_
                  obtain rfl := Option.some.inj hF
                  exact NX.end (rs := [.tmp 2]) (vs := [.bool false]) rfl ⟨rfl, trivial⟩ ⟨_, rfl, rfl, he59⟩
                · intro hc62
                  replace hF := bif_f hc62 hF
                  refine WC.skip' ?_
                  refine NX.blk_n ?_
                  refine NX.seq ?_
                  refine WC.region ?_
                  refine TL.yld rfl rfl (yld_move rfl rfl) ?_
                  refine TL.yld rfl rfl (yld_add rfl rfl rfl) ?_
                  refine TL.yld rfl rfl (yld_assign rfl rfl) ?_
                  refine TL.done ?_
                  refine NX.then_n ?_
                  intro a hK; exact ⟨m46, Nat.lt_succ_self m46, (IntKind.wrap IntKind.i64 (i44 + 1)), hK.weaken ⟨rfl, rfl, rfl, rfl, trivial⟩, he59, (by omega), hb45, hF⟩
              · intro hc63
                replace hF := bif_f hc63 hF
                refine WC.exit' ?_
                refine NX.then_e ?_
                refine NX.then_e ?_
                refine NX.blk_hit ?_
                refine NX.seq ?_
                refine WC.seq ?_
                refine WC.seq ?_
                refine WC.region ?_
                refine TL.yld rfl rfl (yld_fieldAddr rfl fo_75_5 rfl) ?_
                refine TL.yld rfl rfl (yld_load1 5 rfl ag_2 rfl (Box.cells hb45) rfl rfl) ?_
                refine TL.yld rfl rfl (yld_eql rfl rfl rfl) ?_
                refine TL.done ?_
                refine NX.seq ?_
                refine WC.cond rfl ?_ ?_
                · intro hc64
                  replace hF := bif_t hc64 hF
                  refine WC.seq ?_
                  refine WC.seq ?_
                  refine WC.region ?_
                  refine TL.yld rfl rfl (yld_loadN (us := [.string x14.Name, .int .i64 x14.Place, .int .i64 x14.Period, .int .i64 x14.RiseAt, .int .i64 x14.FallAt, .int .i64 x14.Source, .int .i64 x14.Divide, .bool x14.Invert, .int .i64 x14.EarlyLatency, .int .i64 x14.LateLatency, .int .i64 x14.Uncertainty]) rfl ag_75 rfl (Box.cells hb45) cn_75) ?_
                  obtain ⟨r65, hr66, hF⟩ := bsome hF
                  refine TL.eff rfl rfl (eff_call rfl gf_130 rfl (W_spec_l14Primary hr66)) ?_
                  rintro _ w67 ⟨rfl, hx68⟩
                  have he69 : Ext w w67 := Ext.trans he43 hx68
                  have hb45 := Box.ext hb45 hx68
                  have hz70 := (hx68).size
                  refine TL.yld rfl rfl (yld_not rfl rfl) ?_
                  refine TL.done ?_
                  refine NX.seq ?_
                  refine WC.cond rfl ?_ ?_
                  · intro hc71
                    replace hF := bif_t hc71 hF
                    refine WC.seq ?_
                    refine WC.region ?_
                    refine TL.yld rfl rfl (yld_assign rfl rfl) ?_
                    refine TL.done ?_
                    refine NX.seq ?_
                    refine WC.ret' ?_
                    refine NX.then_r ?_
                    refine NX.then_r ?_
                    refine NX.blk_r ?_
                    refine NX.then_r ?_
                    refine NX.then_r ?_
                    refine NX.blk_r ?_
                    refine NX.then_r ?_
                    obtain rfl := Option.some.inj hF
                    exact NX.end (rs := [.tmp 2]) (vs := [.bool false]) rfl ⟨rfl, trivial⟩ ⟨_, rfl, rfl, he69⟩
                  · intro hc72
                    replace hF := bif_f hc72 hF
                    refine WC.skip' ?_
                    refine NX.seq ?_
                    refine WC.exit' ?_
                    refine NX.then_e ?_
                    refine NX.blk_hit ?_
                    refine NX.seq ?_
                    refine WC.region ?_
                    refine TL.yld rfl rfl (yld_move rfl rfl) ?_
                    refine TL.yld rfl rfl (yld_add rfl rfl rfl) ?_
                    refine TL.yld rfl rfl (yld_assign rfl rfl) ?_
                    refine TL.done ?_
                    refine NX.then_n ?_
                    intro a hK; exact ⟨m6, Nat.lt_succ_self m6, (IntKind.wrap IntKind.i64 (i5 + 1)), hK.weaken ⟨rfl, rfl, trivial⟩, he69, (by omega), hF⟩
                · intro hc73
                  replace hF := bif_f hc73 hF
                  refine WC.skip' ?_
                  refine NX.seq ?_
                  refine WC.seq ?_
                  refine WC.region ?_
                  refine TL.yld rfl rfl (yld_fieldAddr rfl fo_75_5 rfl) ?_
                  refine TL.yld rfl rfl (yld_load1 5 rfl ag_2 rfl (Box.cells hb45) rfl rfl) ?_
                  refine TL.yld rfl rfl (yld_move rfl rfl) ?_
                  refine TL.yld rfl rfl (yld_sub rfl rfl rfl) ?_
                  obtain ⟨r74, hr75, hF⟩ := bsome hF
                  refine TL.eff rfl rfl (eff_call rfl gf_52 rfl (W_spec_l01In hr75)) ?_
                  rintro _ w76 ⟨rfl, hx77⟩
                  have he78 : Ext w w76 := Ext.trans he43 hx77
                  have hb45 := Box.ext hb45 hx77
                  have hz79 := (hx77).size
                  refine TL.yld rfl rfl (yld_not rfl rfl) ?_
                  refine TL.yld rfl rfl (yld_move rfl rfl) ?_
                  obtain ⟨c80, hb81, hF⟩ := bsome hF
                  refine TL.cut 5 [(0, v1), (3, .int .i64 i5), (4, .pointer (some ⟨b22, 0, none⟩)), (54, .bool c80)] (fun w' => Ext w76 w') ?_ ?_
                  · rcases Bool.eq_false_or_eq_true (!r74) with hg82 | hg82
                    ·
                      rw [hg82] at hb81; simp only [cond_true, cond_false] at hb81
                      refine TL.gnu (j := 6) (t := 49) rfl rfl rfl hg82 rfl ?_
                      refine TL.gnu (j := 6) (t := 49) rfl rfl rfl hg82 rfl ?_
                      refine TL.gnu (j := 6) (t := 49) rfl rfl rfl hg82 rfl ?_
                      refine TL.gnu (j := 6) (t := 49) rfl rfl rfl hg82 rfl ?_
                      obtain rfl := Option.some.inj hb81
                      refine TL.yld rfl rfl (yld_pick_t rfl rfl hg82 rfl) ?_
                      exact TL.nil fun a h => ⟨h.weaken ⟨rfl, rfl, rfl, rfl, trivial⟩, Ext.refl _⟩
                    ·
                      rw [hg82] at hb81; simp only [cond_true, cond_false] at hb81
                      replace hF := hb81
                      refine TL.gy (j := 6) (t := 49) rfl rfl rfl hg82 rfl (yld_fieldAddr rfl fo_75_6 rfl) ?_
                      refine TL.gy (j := 6) (t := 49) rfl rfl rfl hg82 rfl (yld_load1 6 rfl ag_2 rfl (Box.cells hb45) rfl rfl) ?_
                      obtain ⟨r83, hr84, hF⟩ := bsome hF
                      refine TL.ge (j := 6) (t := 49) rfl rfl rfl hg82 rfl (eff_call rfl gf_52 rfl (W_spec_l01In hr84)) ?_
                      rintro _ w85 ⟨rfl, hx86⟩
                      have he87 : Ext w w85 := Ext.trans he78 hx86
                      have hb45 := Box.ext hb45 hx86
                      have hz88 := (hx86).size
                      refine TL.gy (j := 6) (t := 49) rfl rfl rfl hg82 rfl (yld_not rfl rfl) ?_
                      obtain rfl := Option.some.inj hF
                      refine TL.yld rfl rfl (yld_pick_f rfl rfl hg82 rfl) ?_
                      exact TL.nil fun a h => ⟨h.weaken ⟨rfl, rfl, rfl, rfl, trivial⟩, hx86⟩
                  intro w89 hx90
                  have he91 : Ext w w89 := Ext.trans he78 hx90
                  have hb45 := Box.ext hb45 hx90
                  have hz92 := (hx90).size
                  refine TL.yld rfl rfl (yld_move rfl rfl) ?_
                  refine TL.cut 4 [(0, v1), (3, .int .i64 i5), (4, .pointer (some ⟨b22, 0, none⟩)), (59, .bool ((c80 || ((x14.Period != 0)))))] (fun w' => Ext w89 w') ?_ ?_
                  · rcases Bool.eq_false_or_eq_true c80 with hg93 | hg93
                    ·
                      refine TL.gnu (j := 12) (t := 55) rfl rfl rfl hg93 rfl ?_
                      refine TL.gnu (j := 12) (t := 55) rfl rfl rfl hg93 rfl ?_
                      refine TL.gnu (j := 12) (t := 55) rfl rfl rfl hg93 rfl ?_
                      refine TL.yld rfl rfl (yld_or_t (b2 := (x14.Period != 0)) rfl rfl hg93 rfl) ?_
                      exact TL.nil fun a h => ⟨h.weaken ⟨rfl, rfl, rfl, rfl, trivial⟩, Ext.refl _⟩
                    ·
                      refine TL.gy (j := 12) (t := 55) rfl rfl rfl hg93 rfl (yld_fieldAddr rfl fo_75_2 rfl) ?_
                      refine TL.gy (j := 12) (t := 55) rfl rfl rfl hg93 rfl (yld_load1 2 rfl ag_2 rfl (Box.cells hb45) rfl rfl) ?_
                      refine TL.gy (j := 12) (t := 55) rfl rfl rfl hg93 rfl (yld_neq rfl rfl rfl) ?_
                      refine TL.yld rfl rfl (yld_or_f rfl rfl hg93 rfl) ?_
                      exact TL.nil fun a h => ⟨h.weaken ⟨rfl, rfl, rfl, rfl, trivial⟩, Ext.refl _⟩
                  intro w94 hx95
                  have he96 : Ext w w94 := Ext.trans he91 hx95
                  have hb45 := Box.ext hb45 hx95
                  have hz97 := (hx95).size
                  refine TL.yld rfl rfl (yld_move rfl rfl) ?_
                  refine TL.cut 4 [(0, v1), (3, .int .i64 i5), (4, .pointer (some ⟨b22, 0, none⟩)), (64, .bool ((((c80 || ((x14.Period != 0)))) || ((x14.RiseAt != 0)))))] (fun w' => Ext w94 w') ?_ ?_
                  · rcases Bool.eq_false_or_eq_true ((c80 || ((x14.Period != 0)))) with hg98 | hg98
                    ·
                      refine TL.gnu (j := 17) (t := 60) rfl rfl rfl hg98 rfl ?_
                      refine TL.gnu (j := 17) (t := 60) rfl rfl rfl hg98 rfl ?_
                      refine TL.gnu (j := 17) (t := 60) rfl rfl rfl hg98 rfl ?_
                      refine TL.yld rfl rfl (yld_or_t (b2 := (x14.RiseAt != 0)) rfl rfl hg98 rfl) ?_
                      exact TL.nil fun a h => ⟨h.weaken ⟨rfl, rfl, rfl, rfl, trivial⟩, Ext.refl _⟩
                    ·
                      refine TL.gy (j := 17) (t := 60) rfl rfl rfl hg98 rfl (yld_fieldAddr rfl fo_75_3 rfl) ?_
                      refine TL.gy (j := 17) (t := 60) rfl rfl rfl hg98 rfl (yld_load1 3 rfl ag_2 rfl (Box.cells hb45) rfl rfl) ?_
                      refine TL.gy (j := 17) (t := 60) rfl rfl rfl hg98 rfl (yld_neq rfl rfl rfl) ?_
                      refine TL.yld rfl rfl (yld_or_f rfl rfl hg98 rfl) ?_
                      exact TL.nil fun a h => ⟨h.weaken ⟨rfl, rfl, rfl, rfl, trivial⟩, Ext.refl _⟩
                  intro w99 hx100
                  have he101 : Ext w w99 := Ext.trans he96 hx100
                  have hb45 := Box.ext hb45 hx100
                  have hz102 := (hx100).size
                  refine TL.yld rfl rfl (yld_move rfl rfl) ?_
                  refine TL.cut 4 [(0, v1), (3, .int .i64 i5), (69, .bool ((((((c80 || ((x14.Period != 0)))) || ((x14.RiseAt != 0)))) || ((x14.FallAt != 0)))))] (fun w' => Ext w99 w') ?_ ?_
                  · rcases Bool.eq_false_or_eq_true ((((c80 || ((x14.Period != 0)))) || ((x14.RiseAt != 0)))) with hg103 | hg103
                    ·
                      refine TL.gnu (j := 22) (t := 65) rfl rfl rfl hg103 rfl ?_
                      refine TL.gnu (j := 22) (t := 65) rfl rfl rfl hg103 rfl ?_
                      refine TL.gnu (j := 22) (t := 65) rfl rfl rfl hg103 rfl ?_
                      refine TL.yld rfl rfl (yld_or_t (b2 := (x14.FallAt != 0)) rfl rfl hg103 rfl) ?_
                      exact TL.nil fun a h => ⟨h.weaken ⟨rfl, rfl, rfl, trivial⟩, Ext.refl _⟩
                    ·
                      refine TL.gy (j := 22) (t := 65) rfl rfl rfl hg103 rfl (yld_fieldAddr rfl fo_75_4 rfl) ?_
                      refine TL.gy (j := 22) (t := 65) rfl rfl rfl hg103 rfl (yld_load1 4 rfl ag_2 rfl (Box.cells hb45) rfl rfl) ?_
                      refine TL.gy (j := 22) (t := 65) rfl rfl rfl hg103 rfl (yld_neq rfl rfl rfl) ?_
                      refine TL.yld rfl rfl (yld_or_f rfl rfl hg103 rfl) ?_
                      exact TL.nil fun a h => ⟨h.weaken ⟨rfl, rfl, rfl, trivial⟩, Ext.refl _⟩
                  intro w104 hx105
                  have he106 : Ext w w104 := Ext.trans he101 hx105
                  have hb45 := Box.ext hb45 hx105
                  have hz107 := (hx105).size
                  refine TL.yld rfl rfl (yld_move rfl rfl) ?_
                  obtain ⟨c108, hb109, hF⟩ := bsome hF
                  refine TL.cut 6 [(0, v1), (3, .int .i64 i5), (76, .bool c108)] (fun w' => Ext w104 w') ?_ ?_
                  · rcases Bool.eq_false_or_eq_true ((((((c80 || ((x14.Period != 0)))) || ((x14.RiseAt != 0)))) || ((x14.FallAt != 0)))) with hg110 | hg110
                    ·
                      rw [hg110] at hb109; simp only [cond_true, cond_false] at hb109
                      refine TL.gnu (j := 27) (t := 70) rfl rfl rfl hg110 rfl ?_
                      refine TL.gnu (j := 27) (t := 70) rfl rfl rfl hg110 rfl ?_
                      refine TL.gnu (j := 27) (t := 70) rfl rfl rfl hg110 rfl ?_
                      refine TL.gnu (j := 27) (t := 70) rfl rfl rfl hg110 rfl ?_
                      refine TL.gnu (j := 27) (t := 70) rfl rfl rfl hg110 rfl ?_
                      obtain rfl := Option.some.inj hb109
                      refine TL.yld rfl rfl (yld_pick_t rfl rfl hg110 rfl) ?_
                      exact TL.nil fun a h => ⟨h.weaken ⟨rfl, rfl, rfl, trivial⟩, Ext.refl _⟩
                    ·
                      rw [hg110] at hb109; simp only [cond_true, cond_false] at hb109
                      replace hF := hb109
                      refine TL.gy (j := 27) (t := 70) rfl rfl rfl hg110 rfl (yld_move rfl rfl) ?_
                      refine TL.gy (j := 27) (t := 70) rfl rfl rfl hg110 rfl (yld_move rfl rfl) ?_
                      obtain ⟨r111, hr112, hF⟩ := bsome hF
                      refine TL.ge (j := 27) (t := 70) rfl rfl rfl hg110 rfl (eff_call rfl gf_51 rfl (W_spec_l14Of hr112 ((slRep.old ha2 he106 (Nat.le_refl _)).wide (Nat.le_refl _) (he106).size))) ?_
                      rintro _ w113 ⟨rfl, hx114⟩
                      have he115 : Ext w w113 := Ext.trans he106 hx114
                      have hb45 := Box.ext hb45 hx114
                      have hz116 := (hx114).size
                      refine TL.gy (j := 27) (t := 70) rfl rfl rfl hg110 rfl (yld_field1 rfl ft_79_0 ag_2 rfl rfl) ?_
                      refine TL.gy (j := 27) (t := 70) rfl rfl rfl hg110 rfl (yld_gtr rfl rfl rfl) ?_
                      obtain rfl := Option.some.inj hF
                      refine TL.yld rfl rfl (yld_pick_f rfl rfl hg110 rfl) ?_
                      exact TL.nil fun a h => ⟨h.weaken ⟨rfl, rfl, rfl, trivial⟩, hx114⟩
                  intro w117 hx118
                  have he119 : Ext w w117 := Ext.trans he106 hx118
                  have hb45 := Box.ext hb45 hx118
                  have hz120 := (hx118).size
                  refine TL.done ?_
                  refine NX.seq ?_
                  refine WC.cond rfl ?_ ?_
                  · intro hc121
                    replace hF := bif_t hc121 hF
                    refine WC.seq ?_
                    refine WC.region ?_
                    refine TL.yld rfl rfl (yld_assign rfl rfl) ?_
                    refine TL.done ?_
                    refine NX.seq ?_
                    refine WC.ret' ?_
                    refine NX.blk_r ?_
                    refine NX.then_r ?_
                    refine NX.then_r ?_
                    refine NX.blk_r ?_
                    refine NX.then_r ?_
                    obtain rfl := Option.some.inj hF
                    exact NX.end (rs := [.tmp 2]) (vs := [.bool false]) rfl ⟨rfl, trivial⟩ ⟨_, rfl, rfl, he119⟩
                  · intro hc122
                    replace hF := bif_f hc122 hF
                    refine WC.skip' ?_
                    refine NX.blk_n ?_
                    refine NX.seq ?_
                    refine WC.region ?_
                    refine TL.yld rfl rfl (yld_move rfl rfl) ?_
                    refine TL.yld rfl rfl (yld_add rfl rfl rfl) ?_
                    refine TL.yld rfl rfl (yld_assign rfl rfl) ?_
                    refine TL.done ?_
                    refine NX.then_n ?_
                    intro a hK; exact ⟨m6, Nat.lt_succ_self m6, (IntKind.wrap IntKind.i64 (i5 + 1)), hK.weaken ⟨rfl, rfl, trivial⟩, he119, (by omega), hF⟩
      · intro hc123
        replace hF := bif_f hc123 hF
        refine WC.exit' ?_
        refine NX.then_e ?_
        refine NX.then_e ?_
        refine NX.blk_hit ?_
        refine NX.seq ?_
        refine WC.seq ?_
        refine WC.region ?_
        refine TL.yld rfl rfl (yld_move rfl rfl) ?_
        refine TL.yld rfl rfl (ye_len (c := C_Clock) rfl Tryd.underlying26 rfl (slRep.old ha2 he11 (Nat.le_refl _))) ?_
        refine TL.yld rfl rfl (yld_leq rfl rfl rfl) ?_
        refine TL.yld rfl rfl (yld_assign rfl rfl) ?_
        refine TL.done ?_
        refine NX.seq ?_
        refine WC.ret' ?_
        obtain rfl := Option.some.inj hF
        exact NX.end (rs := [.tmp 2]) (vs := [.bool (decide ((a0_list.length : Int) ≤ 6))]) rfl ⟨rfl, trivial⟩ ⟨_, rfl, rfl, he11⟩

-- loop.example/g00861/spec.l14Root
def F_spec_l14Root_L1 (a0_list : List S_Clock) (k0 : Int → Option Int) : Nat → Int → Option Int
  | 0 => fun _ => none
  | m + 1 => fun i5 => (Option.bind (getI a0_list i5) fun x6 => (bif decide (x6.Source ≥ 0) then (Option.bind (getI a0_list i5) fun x15 => (F_spec_l14Root_L1 a0_list k0 m x15.Source)) else (k0 i5)))
theorem F_spec_l14Root_L1_z (a0_list : List S_Clock) (k0 : Int → Option Int) (i5 : Int) : F_spec_l14Root_L1 a0_list k0 0 i5 = none := rfl
theorem F_spec_l14Root_L1_s (m : Nat) (a0_list : List S_Clock) (k0 : Int → Option Int) (i5 : Int) : F_spec_l14Root_L1 a0_list k0 (m + 1) i5 = (Option.bind (getI a0_list i5) fun x6 => (bif decide (x6.Source ≥ 0) then (Option.bind (getI a0_list i5) fun x15 => (F_spec_l14Root_L1 a0_list k0 m x15.Source)) else (k0 i5))) := rfl

def F_spec_l14Root (n : Nat) (a0_list : List S_Clock) (a1_k : Int) : Option Int := (F_spec_l14Root_L1 a0_list (fun i5 => (some i5)) n a1_k)
set_option maxHeartbeats 40000000 in
theorem W_spec_l14Root {n : Nat} {a0_list : List S_Clock} {a1_k : Int} {r : Int} {w : World} {v1 : Value} (hF : F_spec_l14Root n a0_list a1_k = some r) (ha2 : slRep C_Clock w (Iv 0 w.heap.size) a0_list v1) :
    Calls Tryd.prog 94 [v1, .int .i64 a1_k].toArray w (Ret fun u w2 => u = .int .i64 r ∧ Ext w w2) := by
  refine calls_of Tryd.func94 rfl Tryd.ntmps94 ?_
  have he0 : Ext w w := Ext.refl w
  unfold F_spec_l14Root at hF
  refine WC.seq ?_
  refine WC.region ?_
  refine TL.yld rfl rfl (yld_assign rfl rfl) ?_
  refine TL.done ?_
  refine NX.seq ?_
  refine WC.seq ?_
  refine WC.block ?_
  refine WC.loop (fun m6 a wl => ∃ (i5 : Int), Kn 17 [(0, v1), (1, .int .i64 i5)] a ∧ Ext w wl ∧ w.heap.size ≤ wl.heap.size ∧ F_spec_l14Root_L1 a0_list (fun i5 => (some i5)) m6 i5 = some r) n ?_ ?_
  · intro a hK; exact ⟨a1_k, hK.weaken ⟨rfl, rfl, trivial⟩, he0, Nat.le_refl _, hF⟩
  · rintro m6 a w3 ⟨i5, hK, he4, hz7, hF⟩
    revert hK; revert a; refine (?_ : WC _ _ _ _ _ _)
    cases m6 with
    | zero => rw [F_spec_l14Root_L1_z] at hF; cases hF
    | succ m6 =>
      rw [F_spec_l14Root_L1_s] at hF
      refine WC.seq ?_
      refine WC.seq ?_
      refine WC.region ?_
      refine TL.yld rfl rfl (yld_move rfl rfl) ?_
      refine TL.yld rfl rfl (yld_move rfl rfl) ?_
      obtain ⟨x8, hy9, hF⟩ := bsome hF
      refine TL.ye rfl rfl (ye_index (c := C_Clock) rfl Tryd.underlying26 cn_75 rfl rfl (slRep.old ha2 he4 (Nat.le_refl _)) hy9) ?_
      rintro _ ⟨b10, o11, us12, rfl, hib15, hr13, hcl14⟩
      have hib15 : 0 ≤ b10 ∧ b10 < w.heap.size := ⟨hib15.1, by have := hib15.2; omega⟩
      obtain rfl := C_Clock_open hr13
      refine TL.yld rfl rfl (yld_fieldAddr rfl fo_75_5 rfl) ?_
      refine TL.yld rfl rfl (yld_load1 5 rfl ag_2 rfl hcl14 rfl rfl) ?_
      refine TL.yld rfl rfl (yld_geq rfl rfl rfl) ?_
      refine TL.done ?_
      refine NX.seq ?_
      refine WC.cond rfl ?_ ?_
      · intro hc16
        replace hF := bif_t hc16 hF
        refine WC.skip' ?_
        refine NX.seq ?_
        refine WC.block ?_
        refine WC.region ?_
        refine TL.yld rfl rfl (yld_move rfl rfl) ?_
        refine TL.yld rfl rfl (yld_move rfl rfl) ?_
        obtain ⟨x17, hy18, hF⟩ := bsome hF
        refine TL.ye rfl rfl (ye_index (c := C_Clock) rfl Tryd.underlying26 cn_75 rfl rfl (slRep.old ha2 he4 (Nat.le_refl _)) hy18) ?_
        rintro _ ⟨b19, o20, us21, rfl, hib24, hr22, hcl23⟩
        have hib24 : 0 ≤ b19 ∧ b19 < w.heap.size := ⟨hib24.1, by have := hib24.2; omega⟩
        obtain rfl := C_Clock_open hr22
        refine TL.yld rfl rfl (yld_fieldAddr rfl fo_75_5 rfl) ?_
        refine TL.yld rfl rfl (yld_load1 5 rfl ag_2 rfl hcl23 rfl rfl) ?_
        refine TL.yld rfl rfl (yld_assign rfl rfl) ?_
        refine TL.done ?_
        refine NX.blk_n ?_
        refine NX.then_n ?_
        intro a hK; exact ⟨m6, Nat.lt_succ_self m6, x17.Source, hK.weaken ⟨rfl, rfl, trivial⟩, he4, (by omega), hF⟩
      · intro hc25
        replace hF := bif_f hc25 hF
        refine WC.exit' ?_
        refine NX.then_e ?_
        refine NX.then_e ?_
        refine NX.blk_hit ?_
        refine NX.seq ?_
        refine WC.seq ?_
        refine WC.region ?_
        refine TL.yld rfl rfl (yld_move rfl rfl) ?_
        refine TL.yld rfl rfl (yld_assign rfl rfl) ?_
        refine TL.done ?_
        refine NX.seq ?_
        refine WC.ret' ?_
        obtain rfl := Option.some.inj hF
        exact NX.end (rs := [.tmp 4]) (vs := [.int .i64 i5]) rfl ⟨rfl, trivial⟩ ⟨_, rfl, rfl, he4⟩

-- loop.example/g00861/spec.l14Gcd
def F_spec_l14Gcd_L1 (k0 : Int → Int → Option Int) : Nat → Int → Int → Option Int
  | 0 => fun _ _ => none
  | m + 1 => fun i3 i4 => (bif decide (i4 > 0) then (bif (i4 == 0) then none else (F_spec_l14Gcd_L1 k0 m i4 (Int.tmod i3 i4))) else (k0 i3 i4))
theorem F_spec_l14Gcd_L1_z (k0 : Int → Int → Option Int) (i3 : Int) (i4 : Int) : F_spec_l14Gcd_L1 k0 0 i3 i4 = none := rfl
theorem F_spec_l14Gcd_L1_s (m : Nat) (k0 : Int → Int → Option Int) (i3 : Int) (i4 : Int) : F_spec_l14Gcd_L1 k0 (m + 1) i3 i4 = (bif decide (i4 > 0) then (bif (i4 == 0) then none else (F_spec_l14Gcd_L1 k0 m i4 (Int.tmod i3 i4))) else (k0 i3 i4)) := rfl

def F_spec_l14Gcd (n : Nat) (a0_a : Int) (a1_b : Int) : Option Int := (F_spec_l14Gcd_L1 (fun i3 i4 => (some i3)) n a0_a a1_b)
set_option maxHeartbeats 40000000 in
theorem W_spec_l14Gcd {n : Nat} {a0_a : Int} {a1_b : Int} {r : Int} {w : World} (hF : F_spec_l14Gcd n a0_a a1_b = some r) :
    Calls Tryd.prog 131 [.int .i64 a0_a, .int .i64 a1_b].toArray w (Ret fun u w2 => u = .int .i64 r ∧ Ext w w2) := by
  refine calls_of Tryd.func131 rfl Tryd.ntmps131 ?_
  have he0 : Ext w w := Ext.refl w
  unfold F_spec_l14Gcd at hF
  refine WC.seq ?_
  refine WC.region ?_
  refine TL.yld rfl rfl (yld_assign rfl rfl) ?_
  refine TL.done ?_
  refine NX.seq ?_
  refine WC.seq ?_
  refine WC.block ?_
  refine WC.loop (fun m5 a wl => ∃ (i3 : Int) (i4 : Int), Kn 14 [(0, .int .i64 i3), (1, .int .i64 i4)] a ∧ Ext w wl ∧ w.heap.size ≤ wl.heap.size ∧ F_spec_l14Gcd_L1 (fun i3 i4 => (some i3)) m5 i3 i4 = some r) n ?_ ?_
  · intro a hK; exact ⟨a0_a, a1_b, hK.weaken ⟨rfl, rfl, trivial⟩, he0, Nat.le_refl _, hF⟩
  · rintro m5 a w1 ⟨i3, i4, hK, he2, hz6, hF⟩
    revert hK; revert a; refine (?_ : WC _ _ _ _ _ _)
    cases m5 with
    | zero => rw [F_spec_l14Gcd_L1_z] at hF; cases hF
    | succ m5 =>
      rw [F_spec_l14Gcd_L1_s] at hF
      refine WC.seq ?_
      refine WC.seq ?_
      refine WC.region ?_
      refine TL.yld rfl rfl (yld_move rfl rfl) ?_
      refine TL.yld rfl rfl (yld_gtr rfl rfl rfl) ?_
      refine TL.done ?_
      refine NX.seq ?_
      refine WC.cond rfl ?_ ?_
      · intro hc7
        replace hF := bif_t hc7 hF
        refine WC.skip' ?_
        refine NX.seq ?_
        refine WC.block ?_
        refine WC.seq ?_
        refine WC.region ?_
        refine TL.yld rfl rfl (yld_move rfl rfl) ?_
        refine TL.yld rfl rfl (yld_move rfl rfl) ?_
        obtain ⟨hn8, hF⟩ := nzero hF
        refine TL.yld rfl rfl (yld_rem rfl rfl rfl hn8) ?_
        refine TL.yld rfl rfl (yld_assign rfl rfl) ?_
        refine TL.done ?_
        refine NX.seq ?_
        refine WC.seq ?_
        refine WC.region ?_
        refine TL.yld rfl rfl (yld_move rfl rfl) ?_
        refine TL.yld rfl rfl (yld_assign rfl rfl) ?_
        refine TL.done ?_
        refine NX.seq ?_
        refine WC.region ?_
        refine TL.yld rfl rfl (yld_move rfl rfl) ?_
        refine TL.yld rfl rfl (yld_assign rfl rfl) ?_
        refine TL.done ?_
        refine NX.blk_n ?_
        refine NX.then_n ?_
        intro a hK; exact ⟨m5, Nat.lt_succ_self m5, i4, (Int.tmod i3 i4), hK.weaken ⟨rfl, rfl, trivial⟩, he2, (by omega), hF⟩
      · intro hc9
        replace hF := bif_f hc9 hF
        refine WC.exit' ?_
        refine NX.then_e ?_
        refine NX.then_e ?_
        refine NX.blk_hit ?_
        refine NX.seq ?_
        refine WC.seq ?_
        refine WC.region ?_
        refine TL.yld rfl rfl (yld_move rfl rfl) ?_
        refine TL.yld rfl rfl (yld_assign rfl rfl) ?_
        refine TL.done ?_
        refine NX.seq ?_
        refine WC.ret' ?_
        obtain rfl := Option.some.inj hF
        exact NX.end (rs := [.tmp 4]) (vs := [.int .i64 i3]) rfl ⟨rfl, trivial⟩ ⟨_, rfl, rfl, he2⟩

-- loop.example/g00861/spec.l14Hyper
def F_spec_l14Hyper (n : Nat) (a0_list : List S_Clock) (a1_a : Int) (a2_b : Int) : Option Int := (Option.bind (F_spec_l14Of n a0_list a1_a) fun r3 => (Option.bind (F_spec_l14Of n a0_list a2_b) fun r9 => (Option.bind (F_spec_l14Gcd n r3.period_ r9.period_) fun r15 => (bif (r15 == 0) then none else (some (IntKind.wrap IntKind.i64 ((IntKind.wrap IntKind.i64 (Int.tdiv r3.period_ r15)) * r9.period_)))))))
set_option maxHeartbeats 40000000 in
theorem W_spec_l14Hyper {n : Nat} {a0_list : List S_Clock} {a1_a : Int} {a2_b : Int} {r : Int} {w : World} {v1 : Value} (hF : F_spec_l14Hyper n a0_list a1_a a2_b = some r) (ha2 : slRep C_Clock w (Iv 0 w.heap.size) a0_list v1) :
    Calls Tryd.prog 95 [v1, .int .i64 a1_a, .int .i64 a2_b].toArray w (Ret fun u w2 => u = .int .i64 r ∧ Ext w w2) := by
  refine calls_of Tryd.func95 rfl Tryd.ntmps95 ?_
  have he0 : Ext w w := Ext.refl w
  unfold F_spec_l14Hyper at hF
  refine WC.seq ?_
  refine WC.region ?_
  refine TL.yld rfl rfl (yld_assign rfl rfl) ?_
  refine TL.done ?_
  refine NX.seq ?_
  refine WC.seq ?_
  refine WC.region ?_
  refine TL.yld rfl rfl (yld_move rfl rfl) ?_
  refine TL.yld rfl rfl (yld_move rfl rfl) ?_
  obtain ⟨r3, hr4, hF⟩ := bsome hF
  refine TL.eff rfl rfl (eff_call rfl gf_51 rfl (W_spec_l14Of hr4 ((slRep.old ha2 he0 (Nat.le_refl _)).wide (Nat.le_refl _) (he0).size))) ?_
  rintro _ w5 ⟨rfl, hx6⟩
  have he7 : Ext w w5 := Ext.trans he0 hx6
  have hz8 := (hx6).size
  refine TL.yld rfl rfl (yld_field1 rfl ft_79_0 ag_2 rfl rfl) ?_
  refine TL.yld rfl rfl (yld_move rfl rfl) ?_
  refine TL.yld rfl rfl (yld_move rfl rfl) ?_
  obtain ⟨r9, hr10, hF⟩ := bsome hF
  refine TL.eff rfl rfl (eff_call rfl gf_51 rfl (W_spec_l14Of hr10 ((slRep.old ha2 he7 (Nat.le_refl _)).wide (Nat.le_refl _) (he7).size))) ?_
  rintro _ w11 ⟨rfl, hx12⟩
  have he13 : Ext w w11 := Ext.trans he7 hx12
  have hz14 := (hx12).size
  refine TL.yld rfl rfl (yld_field1 rfl ft_79_0 ag_2 rfl rfl) ?_
  refine TL.yld rfl rfl (yld_assign rfl rfl) ?_
  refine TL.yld rfl rfl (yld_assign rfl rfl) ?_
  refine TL.done ?_
  refine NX.seq ?_
  refine WC.seq ?_
  refine WC.region ?_
  refine TL.yld rfl rfl (yld_move rfl rfl) ?_
  refine TL.yld rfl rfl (yld_move rfl rfl) ?_
  refine TL.yld rfl rfl (yld_move rfl rfl) ?_
  obtain ⟨r15, hr16, hF⟩ := bsome hF
  refine TL.eff rfl rfl (eff_call rfl gf_131 rfl (W_spec_l14Gcd hr16)) ?_
  rintro _ w17 ⟨rfl, hx18⟩
  have he19 : Ext w w17 := Ext.trans he13 hx18
  have hz20 := (hx18).size
  obtain ⟨hn21, hF⟩ := nzero hF
  refine TL.yld rfl rfl (yld_quo rfl rfl rfl hn21) ?_
  refine TL.yld rfl rfl (yld_move rfl rfl) ?_
  refine TL.yld rfl rfl (yld_mul rfl rfl rfl) ?_
  refine TL.yld rfl rfl (yld_assign rfl rfl) ?_
  refine TL.done ?_
  refine NX.seq ?_
  refine WC.ret' ?_
  obtain rfl := Option.some.inj hF
  exact NX.end (rs := [.tmp 6]) (vs := [.int .i64 (IntKind.wrap IntKind.i64 ((IntKind.wrap IntKind.i64 (Int.tdiv r3.period_ r15)) * r9.period_))]) rfl ⟨rfl, trivial⟩ ⟨_, rfl, rfl, he19⟩

-- loop.example/g00861/spec.l15Code
def F_spec_l15Code (n : Nat) (a0_list : List S_Clock) (a1_a : Int) (a2_ea : Int) (a3_b : Int) (a4_eb : Int) : Option Int := (Option.bind (F_spec_IsClocks n a0_list) fun r3 => (bif (!r3) then (some 1) else (Option.bind (F_spec_l01In n a1_a 0 (IntKind.wrap IntKind.i64 (((a0_list.length : Int)) - 1))) fun r11 => (Option.bind (bif (!r11) then (some true) else (Option.bind (F_spec_l01In n a3_b 0 (IntKind.wrap IntKind.i64 (((a0_list.length : Int)) - 1))) fun r17 => (some (!r17)))) fun c17 => (bif c17 then (some 4) else (Option.bind (F_spec_l01In n a2_ea 0 1) fun r32 => (Option.bind (bif (!r32) then (some true) else (Option.bind (F_spec_l01In n a4_eb 0 1) fun r38 => (some (!r38)))) fun c38 => (bif c38 then (some 2) else (Option.bind (F_spec_l14Root n a0_list a1_a) fun r53 => (Option.bind (F_spec_l14Root n a0_list a3_b) fun r59 => (bif (r53 != r59) then (some 5) else (Option.bind (F_spec_l14Hyper n a0_list a1_a a3_b) fun r67 => (Option.bind (bif decide (r67 > 100000000) then (some true) else (Option.bind (F_spec_l14Of n a0_list a1_a) fun r73 => (bif (r73.period_ == 0) then none else (some (decide (IntKind.wrap IntKind.i64 (Int.tdiv r67 r73.period_) > 200)))))) fun c73 => (bif c73 then (some 3) else (some 0)))))))))))))))
set_option maxHeartbeats 40000000 in
theorem W_spec_l15Code {n : Nat} {a0_list : List S_Clock} {a1_a : Int} {a2_ea : Int} {a3_b : Int} {a4_eb : Int} {r : Int} {w : World} {v1 : Value} (hF : F_spec_l15Code n a0_list a1_a a2_ea a3_b a4_eb = some r) (ha2 : slRep C_Clock w (Iv 0 w.heap.size) a0_list v1) :
    Calls Tryd.prog 47 [v1, .int .i64 a1_a, .int .i64 a2_ea, .int .i64 a3_b, .int .i64 a4_eb].toArray w (Ret fun u w2 => u = .int .i64 r ∧ Ext w w2) := by
  refine calls_of Tryd.func47 rfl Tryd.ntmps47 ?_
  have he0 : Ext w w := Ext.refl w
  unfold F_spec_l15Code at hF
  refine WC.seq ?_
  refine WC.region ?_
  refine TL.yld rfl rfl (yld_assign rfl rfl) ?_
  refine TL.done ?_
  refine NX.seq ?_
  refine WC.seq ?_
  refine WC.seq ?_
  refine WC.region ?_
  refine TL.yld rfl rfl (yld_move rfl rfl) ?_
  obtain ⟨r3, hr4, hF⟩ := bsome hF
  refine TL.eff rfl rfl (eff_call rfl gf_93 rfl (W_spec_IsClocks hr4 ((slRep.old ha2 he0 (Nat.le_refl _)).wide (Nat.le_refl _) (he0).size))) ?_
  rintro _ w5 ⟨rfl, hx6⟩
  have he7 : Ext w w5 := Ext.trans he0 hx6
  have hz8 := (hx6).size
  refine TL.yld rfl rfl (yld_not rfl rfl) ?_
  refine TL.done ?_
  refine NX.seq ?_
  refine WC.cond rfl ?_ ?_
  · intro hc9
    replace hF := bif_t hc9 hF
    refine WC.seq ?_
    refine WC.region ?_
    refine TL.yld rfl rfl (yld_assign rfl rfl) ?_
    refine TL.done ?_
    refine NX.seq ?_
    refine WC.ret' ?_
    refine NX.then_r ?_
    obtain rfl := Option.some.inj hF
    exact NX.end (rs := [.tmp 10]) (vs := [.int .i64 1]) rfl ⟨rfl, trivial⟩ ⟨_, rfl, rfl, he7⟩
  · intro hc10
    replace hF := bif_f hc10 hF
    refine WC.skip' ?_
    refine NX.seq ?_
    refine WC.seq ?_
    refine WC.region ?_
    refine TL.yld rfl rfl (yld_move rfl rfl) ?_
    refine TL.yld rfl rfl (ye_len (c := C_Clock) rfl Tryd.underlying26 rfl (slRep.old ha2 he7 (Nat.le_refl _))) ?_
    refine TL.yld rfl rfl (yld_sub rfl rfl rfl) ?_
    refine TL.yld rfl rfl (yld_assign rfl rfl) ?_
    refine TL.done ?_
    refine NX.seq ?_
    refine WC.seq ?_
    refine WC.block ?_
    refine WC.seq ?_
    refine WC.region ?_
    refine TL.yld rfl rfl (yld_move rfl rfl) ?_
    refine TL.yld rfl rfl (yld_move rfl rfl) ?_
    obtain ⟨r11, hr12, hF⟩ := bsome hF
    refine TL.eff rfl rfl (eff_call rfl gf_52 rfl (W_spec_l01In hr12)) ?_
    rintro _ w13 ⟨rfl, hx14⟩
    have he15 : Ext w w13 := Ext.trans he7 hx14
    have hz16 := (hx14).size
    refine TL.yld rfl rfl (yld_not rfl rfl) ?_
    refine TL.yld rfl rfl (yld_move rfl rfl) ?_
    obtain ⟨c17, hb18, hF⟩ := bsome hF
    refine TL.cut 5 [(0, v1), (1, .int .i64 a1_a), (2, .int .i64 a2_ea), (3, .int .i64 a3_b), (4, .int .i64 a4_eb), (29, .bool c17)] (fun w' => Ext w13 w') ?_ ?_
    · rcases Bool.eq_false_or_eq_true (!r11) with hg19 | hg19
      ·
        rw [hg19] at hb18; simp only [cond_true, cond_false] at hb18
        refine TL.gnu (j := 4) (t := 24) rfl rfl rfl hg19 rfl ?_
        refine TL.gnu (j := 4) (t := 24) rfl rfl rfl hg19 rfl ?_
        refine TL.gnu (j := 4) (t := 24) rfl rfl rfl hg19 rfl ?_
        refine TL.gnu (j := 4) (t := 24) rfl rfl rfl hg19 rfl ?_
        obtain rfl := Option.some.inj hb18
        refine TL.yld rfl rfl (yld_pick_t rfl rfl hg19 rfl) ?_
        exact TL.nil fun a h => ⟨h.weaken ⟨rfl, rfl, rfl, rfl, rfl, rfl, trivial⟩, Ext.refl _⟩
      ·
        rw [hg19] at hb18; simp only [cond_true, cond_false] at hb18
        replace hF := hb18
        refine TL.gy (j := 4) (t := 24) rfl rfl rfl hg19 rfl (yld_move rfl rfl) ?_
        refine TL.gy (j := 4) (t := 24) rfl rfl rfl hg19 rfl (yld_move rfl rfl) ?_
        obtain ⟨r20, hr21, hF⟩ := bsome hF
        refine TL.ge (j := 4) (t := 24) rfl rfl rfl hg19 rfl (eff_call rfl gf_52 rfl (W_spec_l01In hr21)) ?_
        rintro _ w22 ⟨rfl, hx23⟩
        have he24 : Ext w w22 := Ext.trans he15 hx23
        have hz25 := (hx23).size
        refine TL.gy (j := 4) (t := 24) rfl rfl rfl hg19 rfl (yld_not rfl rfl) ?_
        obtain rfl := Option.some.inj hF
        refine TL.yld rfl rfl (yld_pick_f rfl rfl hg19 rfl) ?_
        exact TL.nil fun a h => ⟨h.weaken ⟨rfl, rfl, rfl, rfl, rfl, rfl, trivial⟩, hx23⟩
    intro w26 hx27
    have he28 : Ext w w26 := Ext.trans he15 hx27
    have hz29 := (hx27).size
    refine TL.yld rfl rfl (yld_assign rfl rfl) ?_
    refine TL.done ?_
    refine NX.seq ?_
    refine WC.cond rfl ?_ ?_
    · intro hc30
      replace hF := bif_t hc30 hF
      refine WC.seq ?_
      refine WC.region ?_
      refine TL.yld rfl rfl (yld_assign rfl rfl) ?_
      refine TL.done ?_
      refine NX.seq ?_
      refine WC.ret' ?_
      refine NX.blk_r ?_
      refine NX.then_r ?_
      obtain rfl := Option.some.inj hF
      exact NX.end (rs := [.tmp 10]) (vs := [.int .i64 4]) rfl ⟨rfl, trivial⟩ ⟨_, rfl, rfl, he28⟩
    · intro hc31
      replace hF := bif_f hc31 hF
      refine WC.seq ?_
      refine WC.region ?_
      refine TL.yld rfl rfl (yld_move rfl rfl) ?_
      obtain ⟨r32, hr33, hF⟩ := bsome hF
      refine TL.eff rfl rfl (eff_call rfl gf_52 rfl (W_spec_l01In hr33)) ?_
      rintro _ w34 ⟨rfl, hx35⟩
      have he36 : Ext w w34 := Ext.trans he28 hx35
      have hz37 := (hx35).size
      refine TL.yld rfl rfl (yld_not rfl rfl) ?_
      refine TL.yld rfl rfl (yld_move rfl rfl) ?_
      obtain ⟨c38, hb39, hF⟩ := bsome hF
      refine TL.cut 4 [(0, v1), (1, .int .i64 a1_a), (3, .int .i64 a3_b), (38, .bool c38)] (fun w' => Ext w34 w') ?_ ?_
      · rcases Bool.eq_false_or_eq_true (!r32) with hg40 | hg40
        ·
          rw [hg40] at hb39; simp only [cond_true, cond_false] at hb39
          refine TL.gnu (j := 3) (t := 34) rfl rfl rfl hg40 rfl ?_
          refine TL.gnu (j := 3) (t := 34) rfl rfl rfl hg40 rfl ?_
          refine TL.gnu (j := 3) (t := 34) rfl rfl rfl hg40 rfl ?_
          obtain rfl := Option.some.inj hb39
          refine TL.yld rfl rfl (yld_pick_t rfl rfl hg40 rfl) ?_
          exact TL.nil fun a h => ⟨h.weaken ⟨rfl, rfl, rfl, rfl, trivial⟩, Ext.refl _⟩
        ·
          rw [hg40] at hb39; simp only [cond_true, cond_false] at hb39
          replace hF := hb39
          refine TL.gy (j := 3) (t := 34) rfl rfl rfl hg40 rfl (yld_move rfl rfl) ?_
          obtain ⟨r41, hr42, hF⟩ := bsome hF
          refine TL.ge (j := 3) (t := 34) rfl rfl rfl hg40 rfl (eff_call rfl gf_52 rfl (W_spec_l01In hr42)) ?_
          rintro _ w43 ⟨rfl, hx44⟩
          have he45 : Ext w w43 := Ext.trans he36 hx44
          have hz46 := (hx44).size
          refine TL.gy (j := 3) (t := 34) rfl rfl rfl hg40 rfl (yld_not rfl rfl) ?_
          obtain rfl := Option.some.inj hF
          refine TL.yld rfl rfl (yld_pick_f rfl rfl hg40 rfl) ?_
          exact TL.nil fun a h => ⟨h.weaken ⟨rfl, rfl, rfl, rfl, trivial⟩, hx44⟩
      intro w47 hx48
      have he49 : Ext w w47 := Ext.trans he36 hx48
      have hz50 := (hx48).size
      refine TL.yld rfl rfl (yld_assign rfl rfl) ?_
      refine TL.done ?_
      refine NX.seq ?_
      refine WC.cond rfl ?_ ?_
      · intro hc51
        replace hF := bif_t hc51 hF
        refine WC.seq ?_
        refine WC.region ?_
        refine TL.yld rfl rfl (yld_assign rfl rfl) ?_
        refine TL.done ?_
        refine NX.seq ?_
        refine WC.ret' ?_
        refine NX.blk_r ?_
        refine NX.then_r ?_
        obtain rfl := Option.some.inj hF
        exact NX.end (rs := [.tmp 10]) (vs := [.int .i64 2]) rfl ⟨rfl, trivial⟩ ⟨_, rfl, rfl, he49⟩
      · intro hc52
        replace hF := bif_f hc52 hF
        refine WC.seq ?_
        refine WC.region ?_
        refine TL.yld rfl rfl (yld_move rfl rfl) ?_
        refine TL.yld rfl rfl (yld_move rfl rfl) ?_
        obtain ⟨r53, hr54, hF⟩ := bsome hF
        refine TL.eff rfl rfl (eff_call rfl gf_94 rfl (W_spec_l14Root hr54 ((slRep.old ha2 he49 (Nat.le_refl _)).wide (Nat.le_refl _) (he49).size))) ?_
        rintro _ w55 ⟨rfl, hx56⟩
        have he57 : Ext w w55 := Ext.trans he49 hx56
        have hz58 := (hx56).size
        refine TL.yld rfl rfl (yld_move rfl rfl) ?_
        refine TL.yld rfl rfl (yld_move rfl rfl) ?_
        obtain ⟨r59, hr60, hF⟩ := bsome hF
        refine TL.eff rfl rfl (eff_call rfl gf_94 rfl (W_spec_l14Root hr60 ((slRep.old ha2 he57 (Nat.le_refl _)).wide (Nat.le_refl _) (he57).size))) ?_
        rintro _ w61 ⟨rfl, hx62⟩
        have he63 : Ext w w61 := Ext.trans he57 hx62
        have hz64 := (hx62).size
        refine TL.yld rfl rfl (yld_neq rfl rfl rfl) ?_
        refine TL.yld rfl rfl (yld_assign rfl rfl) ?_
        refine TL.done ?_
        refine NX.seq ?_
        refine WC.cond rfl ?_ ?_
        · intro hc65
          replace hF := bif_t hc65 hF
          refine WC.seq ?_
          refine WC.region ?_
          refine TL.yld rfl rfl (yld_assign rfl rfl) ?_
          refine TL.done ?_
          refine NX.seq ?_
          refine WC.ret' ?_
          refine NX.blk_r ?_
          refine NX.then_r ?_
          obtain rfl := Option.some.inj hF
          exact NX.end (rs := [.tmp 10]) (vs := [.int .i64 5]) rfl ⟨rfl, trivial⟩ ⟨_, rfl, rfl, he63⟩
        · intro hc66
          replace hF := bif_f hc66 hF
          refine WC.skip' ?_
          refine NX.blk_n ?_
          refine NX.seq ?_
          refine WC.seq ?_
          refine WC.region ?_
          refine TL.yld rfl rfl (yld_move rfl rfl) ?_
          refine TL.yld rfl rfl (yld_move rfl rfl) ?_
          refine TL.yld rfl rfl (yld_move rfl rfl) ?_
          obtain ⟨r67, hr68, hF⟩ := bsome hF
          refine TL.eff rfl rfl (eff_call rfl gf_95 rfl (W_spec_l14Hyper hr68 ((slRep.old ha2 he63 (Nat.le_refl _)).wide (Nat.le_refl _) (he63).size))) ?_
          rintro _ w69 ⟨rfl, hx70⟩
          have he71 : Ext w w69 := Ext.trans he63 hx70
          have hz72 := (hx70).size
          refine TL.yld rfl rfl (yld_assign rfl rfl) ?_
          refine TL.done ?_
          refine NX.seq ?_
          refine WC.seq ?_
          refine WC.seq ?_
          refine WC.region ?_
          refine TL.yld rfl rfl (yld_move rfl rfl) ?_
          refine TL.yld rfl rfl (yld_gtr rfl rfl rfl) ?_
          refine TL.yld rfl rfl (yld_move rfl rfl) ?_
          obtain ⟨c73, hb74, hF⟩ := bsome hF
          refine TL.cut 8 [(61, .bool c73)] (fun w' => Ext w69 w') ?_ ?_
          · rcases Bool.eq_false_or_eq_true (decide (r67 > 100000000)) with hg75 | hg75
            ·
              rw [hg75] at hb74; simp only [cond_true, cond_false] at hb74
              refine TL.gnu (j := 2) (t := 53) rfl rfl rfl hg75 rfl ?_
              refine TL.gnu (j := 2) (t := 53) rfl rfl rfl hg75 rfl ?_
              refine TL.gnu (j := 2) (t := 53) rfl rfl rfl hg75 rfl ?_
              refine TL.gnu (j := 2) (t := 53) rfl rfl rfl hg75 rfl ?_
              refine TL.gnu (j := 2) (t := 53) rfl rfl rfl hg75 rfl ?_
              refine TL.gnu (j := 2) (t := 53) rfl rfl rfl hg75 rfl ?_
              refine TL.gnu (j := 2) (t := 53) rfl rfl rfl hg75 rfl ?_
              obtain rfl := Option.some.inj hb74
              refine TL.yld rfl rfl (yld_pick_t rfl rfl hg75 rfl) ?_
              exact TL.nil fun a h => ⟨h.weaken ⟨rfl, trivial⟩, Ext.refl _⟩
            ·
              rw [hg75] at hb74; simp only [cond_true, cond_false] at hb74
              replace hF := hb74
              refine TL.gy (j := 2) (t := 53) rfl rfl rfl hg75 rfl (yld_move rfl rfl) ?_
              refine TL.gy (j := 2) (t := 53) rfl rfl rfl hg75 rfl (yld_move rfl rfl) ?_
              refine TL.gy (j := 2) (t := 53) rfl rfl rfl hg75 rfl (yld_move rfl rfl) ?_
              obtain ⟨r76, hr77, hF⟩ := bsome hF
              refine TL.ge (j := 2) (t := 53) rfl rfl rfl hg75 rfl (eff_call rfl gf_51 rfl (W_spec_l14Of hr77 ((slRep.old ha2 he71 (Nat.le_refl _)).wide (Nat.le_refl _) (he71).size))) ?_
              rintro _ w78 ⟨rfl, hx79⟩
              have he80 : Ext w w78 := Ext.trans he71 hx79
              have hz81 := (hx79).size
              refine TL.gy (j := 2) (t := 53) rfl rfl rfl hg75 rfl (yld_field1 rfl ft_79_0 ag_2 rfl rfl) ?_
              obtain ⟨hn82, hF⟩ := nzero hF
              refine TL.gy (j := 2) (t := 53) rfl rfl rfl hg75 rfl (yld_quo rfl rfl rfl hn82) ?_
              refine TL.gy (j := 2) (t := 53) rfl rfl rfl hg75 rfl (yld_gtr rfl rfl rfl) ?_
              obtain rfl := Option.some.inj hF
              refine TL.yld rfl rfl (yld_pick_f rfl rfl hg75 rfl) ?_
              exact TL.nil fun a h => ⟨h.weaken ⟨rfl, trivial⟩, hx79⟩
          intro w83 hx84
          have he85 : Ext w w83 := Ext.trans he71 hx84
          have hz86 := (hx84).size
          refine TL.done ?_
          refine NX.seq ?_
          refine WC.cond rfl ?_ ?_
          · intro hc87
            replace hF := bif_t hc87 hF
            refine WC.seq ?_
            refine WC.region ?_
            refine TL.yld rfl rfl (yld_assign rfl rfl) ?_
            refine TL.done ?_
            refine NX.seq ?_
            refine WC.ret' ?_
            refine NX.then_r ?_
            obtain rfl := Option.some.inj hF
            exact NX.end (rs := [.tmp 10]) (vs := [.int .i64 3]) rfl ⟨rfl, trivial⟩ ⟨_, rfl, rfl, he85⟩
          · intro hc88
            replace hF := bif_f hc88 hF
            refine WC.skip' ?_
            refine NX.seq ?_
            refine WC.seq ?_
            refine WC.region ?_
            refine TL.yld rfl rfl (yld_assign rfl rfl) ?_
            refine TL.done ?_
            refine NX.seq ?_
            refine WC.ret' ?_
            obtain rfl := Option.some.inj hF
            exact NX.end (rs := [.tmp 10]) (vs := [.int .i64 0]) rfl ⟨rfl, trivial⟩ ⟨_, rfl, rfl, he85⟩

-- loop.example/g00861/spec.l14Edge
def F_spec_l14Edge (n : Nat) (a0_w : S_l14Wave) (a1_edge : Int) : Option Int := (bif (a1_edge == 0) then (some a0_w.rise_) else (some a0_w.fall_))
set_option maxHeartbeats 40000000 in
theorem W_spec_l14Edge {n : Nat} {a0_w : S_l14Wave} {a1_edge : Int} {r : Int} {w : World} (hF : F_spec_l14Edge n a0_w a1_edge = some r) :
    Calls Tryd.prog 132 [.agg #[.int .i64 a0_w.period_, .int .i64 a0_w.rise_, .int .i64 a0_w.fall_], .int .i64 a1_edge].toArray w (Ret fun u w2 => u = .int .i64 r ∧ Ext w w2) := by
  refine calls_of Tryd.func132 rfl Tryd.ntmps132 ?_
  have he0 : Ext w w := Ext.refl w
  unfold F_spec_l14Edge at hF
  refine WC.seq ?_
  refine WC.region ?_
  refine TL.eff rfl rfl (eff_box rfl rfl) ?_
  rintro _ w2 ⟨b1, rfl, hn3⟩
  obtain ⟨hn3e, hn3s, hn3x, hb4⟩ := hn3
  have hb4 : Box w2 b1 [.int .i64 a0_w.period_, .int .i64 a0_w.rise_, .int .i64 a0_w.fall_] 79 := hb4
  have he6 : Ext w w2 := Ext.trans he0 hn3x
  have hz7 := (hn3x).size
  have hlo5 : w.heap.size ≤ b1 := by rw [hn3e]; exact (he0).size
  refine TL.yld rfl rfl (yld_assign rfl rfl) ?_
  refine TL.done ?_
  refine NX.seq ?_
  refine WC.seq ?_
  refine WC.seq ?_
  refine WC.region ?_
  refine TL.yld rfl rfl (yld_move rfl rfl) ?_
  refine TL.yld rfl rfl (yld_eql rfl rfl rfl) ?_
  refine TL.done ?_
  refine NX.seq ?_
  refine WC.cond rfl ?_ ?_
  · intro hc8
    replace hF := bif_t hc8 hF
    refine WC.seq ?_
    refine WC.region ?_
    refine TL.yld rfl rfl (yld_fieldAddr rfl fo_79_1 rfl) ?_
    refine TL.yld rfl rfl (yld_load1 1 rfl ag_2 rfl (Box.cells hb4) rfl rfl) ?_
    refine TL.yld rfl rfl (yld_assign rfl rfl) ?_
    refine TL.done ?_
    refine NX.seq ?_
    refine WC.ret' ?_
    refine NX.then_r ?_
    obtain rfl := Option.some.inj hF
    exact NX.end (rs := [.tmp 4]) (vs := [.int .i64 a0_w.rise_]) rfl ⟨rfl, trivial⟩ ⟨_, rfl, rfl, he6⟩
  · intro hc9
    replace hF := bif_f hc9 hF
    refine WC.skip' ?_
    refine NX.seq ?_
    refine WC.seq ?_
    refine WC.region ?_
    refine TL.yld rfl rfl (yld_fieldAddr rfl fo_79_2 rfl) ?_
    refine TL.yld rfl rfl (yld_load1 2 rfl ag_2 rfl (Box.cells hb4) rfl rfl) ?_
    refine TL.yld rfl rfl (yld_assign rfl rfl) ?_
    refine TL.done ?_
    refine NX.seq ?_
    refine WC.ret' ?_
    obtain rfl := Option.some.inj hF
    exact NX.end (rs := [.tmp 4]) (vs := [.int .i64 a0_w.fall_]) rfl ⟨rfl, trivial⟩ ⟨_, rfl, rfl, he6⟩

-- loop.example/g00861/spec.l14After
def F_spec_l14After (n : Nat) (a0_w : S_l14Wave) (a1_edge : Int) (a2_time : Int) : Option Int := (Option.bind (F_spec_l14Edge n a0_w a1_edge) fun r8 => (bif (a0_w.period_ == 0) then none else (bif (a0_w.period_ == 0) then none else (some (IntKind.wrap IntKind.i64 (a2_time + (Int.tmod (IntKind.wrap IntKind.i64 ((Int.tmod (IntKind.wrap IntKind.i64 (r8 - a2_time)) a0_w.period_) + a0_w.period_)) a0_w.period_)))))))
set_option maxHeartbeats 40000000 in
theorem W_spec_l14After {n : Nat} {a0_w : S_l14Wave} {a1_edge : Int} {a2_time : Int} {r : Int} {w : World} (hF : F_spec_l14After n a0_w a1_edge a2_time = some r) :
    Calls Tryd.prog 96 [.agg #[.int .i64 a0_w.period_, .int .i64 a0_w.rise_, .int .i64 a0_w.fall_], .int .i64 a1_edge, .int .i64 a2_time].toArray w (Ret fun u w2 => u = .int .i64 r ∧ Ext w w2) := by
  refine calls_of Tryd.func96 rfl Tryd.ntmps96 ?_
  have he0 : Ext w w := Ext.refl w
  unfold F_spec_l14After at hF
  refine WC.seq ?_
  refine WC.region ?_
  refine TL.eff rfl rfl (eff_box rfl rfl) ?_
  rintro _ w2 ⟨b1, rfl, hn3⟩
  obtain ⟨hn3e, hn3s, hn3x, hb4⟩ := hn3
  have hb4 : Box w2 b1 [.int .i64 a0_w.period_, .int .i64 a0_w.rise_, .int .i64 a0_w.fall_] 79 := hb4
  have he6 : Ext w w2 := Ext.trans he0 hn3x
  have hz7 := (hn3x).size
  have hlo5 : w.heap.size ≤ b1 := by rw [hn3e]; exact (he0).size
  refine TL.yld rfl rfl (yld_assign rfl rfl) ?_
  refine TL.done ?_
  refine NX.seq ?_
  refine WC.seq ?_
  refine WC.quiet Tryd.hm (by kernel_rfl) ?_
  refine QL.yld rfl rfl (Yld.qui (yld_move rfl rfl)) ?_
  refine QL.yld rfl rfl (Yld.qui (yld_loadN (us := [.int .i64 a0_w.period_, .int .i64 a0_w.rise_, .int .i64 a0_w.fall_]) rfl ag_79 rfl (Box.cells hb4) cn_79)) ?_
  refine QL.yld rfl rfl (Yld.qui (yld_move rfl rfl)) ?_
  obtain ⟨r8, hr9, hF⟩ := bsome hF
  refine QL.yld rfl rfl (qui_call rfl gf_132 rfl fun w' hw' => W_spec_l14Edge hr9) ?_
  refine QL.yld rfl rfl (Yld.qui (yld_move rfl rfl)) ?_
  refine QL.yld rfl rfl (Yld.qui (yld_sub rfl rfl rfl)) ?_
  refine QL.yld rfl rfl (Yld.qui (yld_fieldAddr rfl fo_79_0 rfl)) ?_
  refine QL.yld rfl rfl (Yld.qui (yld_load1 0 rfl ag_2 rfl (Box.cells hb4) rfl rfl)) ?_
  obtain ⟨hn10, hF⟩ := nzero hF
  refine QL.yld rfl rfl (Yld.qui (yld_rem rfl rfl rfl hn10)) ?_
  refine QL.yld rfl rfl (Yld.qui (yld_fieldAddr rfl fo_79_0 rfl)) ?_
  refine QL.yld rfl rfl (Yld.qui (yld_load1 0 rfl ag_2 rfl (Box.cells hb4) rfl rfl)) ?_
  refine QL.yld rfl rfl (Yld.qui (yld_add rfl rfl rfl)) ?_
  refine QL.yld rfl rfl (Yld.qui (yld_fieldAddr rfl fo_79_0 rfl)) ?_
  refine QL.yld rfl rfl (Yld.qui (yld_load1 0 rfl ag_2 rfl (Box.cells hb4) rfl rfl)) ?_
  obtain ⟨hn11, hF⟩ := nzero hF
  refine QL.yld rfl rfl (Yld.qui (yld_rem rfl rfl rfl hn11)) ?_
  refine QL.yld rfl rfl (Yld.qui (yld_add rfl rfl rfl)) ?_
  refine QL.yld rfl rfl (Yld.qui (yld_assign rfl rfl)) ?_
  refine QL.done fun w12 hx13 => ?_
  have he14 : Ext w w12 := Ext.trans he6 hx13
  have hb4 := Box.ext hb4 hx13
  have hz15 := (hx13).size
  refine NX.seq ?_
  refine WC.ret' ?_
  obtain rfl := Option.some.inj hF
  exact NX.end (rs := [.tmp 6]) (vs := [.int .i64 (IntKind.wrap IntKind.i64 (a2_time + (Int.tmod (IntKind.wrap IntKind.i64 ((Int.tmod (IntKind.wrap IntKind.i64 (r8 - a2_time)) a0_w.period_) + a0_w.period_)) a0_w.period_)))]) rfl ⟨rfl, trivial⟩ ⟨_, rfl, rfl, he14⟩

-- loop.example/g00861/spec.l15Pairs
def F_spec_l15Pairs_L1 (n : Nat) (a4_eb : Int) (r16 : Int) (r22 : S_l14Wave) (r28 : S_l14Wave) (k0 : (List (List Int)) → Int → Option (List (List Int))) : Nat → (List (List Int)) → Int → Option (List (List Int))
  | 0 => fun _ _ => none
  | m + 1 => fun l66 i70 => (bif decide (i70 < r16) then (Option.bind (F_spec_l14After n r28 a4_eb (IntKind.wrap IntKind.i64 (i70 + 1))) fun r76 => (Option.bind (appN l66 ([[i70, r76]]) 24) fun z108 => (F_spec_l15Pairs_L1 n a4_eb r16 r22 r28 k0 m z108 (IntKind.wrap IntKind.i64 (i70 + r22.period_))))) else (k0 l66 i70))
theorem F_spec_l15Pairs_L1_z (n : Nat) (a4_eb : Int) (r16 : Int) (r22 : S_l14Wave) (r28 : S_l14Wave) (k0 : (List (List Int)) → Int → Option (List (List Int))) (l66 : List (List Int)) (i70 : Int) : F_spec_l15Pairs_L1 n a4_eb r16 r22 r28 k0 0 l66 i70 = none := rfl
theorem F_spec_l15Pairs_L1_s (m : Nat) (n : Nat) (a4_eb : Int) (r16 : Int) (r22 : S_l14Wave) (r28 : S_l14Wave) (k0 : (List (List Int)) → Int → Option (List (List Int))) (l66 : List (List Int)) (i70 : Int) : F_spec_l15Pairs_L1 n a4_eb r16 r22 r28 k0 (m + 1) l66 i70 = (bif decide (i70 < r16) then (Option.bind (F_spec_l14After n r28 a4_eb (IntKind.wrap IntKind.i64 (i70 + 1))) fun r76 => (Option.bind (appN l66 ([[i70, r76]]) 24) fun z108 => (F_spec_l15Pairs_L1 n a4_eb r16 r22 r28 k0 m z108 (IntKind.wrap IntKind.i64 (i70 + r22.period_))))) else (k0 l66 i70)) := rfl

def F_spec_l15Pairs (n : Nat) (a0_list : List S_Clock) (a1_a : Int) (a2_ea : Int) (a3_b : Int) (a4_eb : Int) : Option (List (List Int)) := (Option.bind (F_spec_l14Hyper n a0_list a1_a a3_b) fun r16 => (Option.bind (F_spec_l14Of n a0_list a1_a) fun r22 => (Option.bind (F_spec_l14Of n a0_list a3_b) fun r28 => (Option.bind (F_spec_l14After n r22 a2_ea 0) fun r58 => (F_spec_l15Pairs_L1 n a4_eb r16 r22 r28 (fun l66 i70 => (some l66)) n (([] : List (List Int))) r58)))))
set_option maxHeartbeats 40000000 in
theorem W_spec_l15Pairs {n : Nat} {a0_list : List S_Clock} {a1_a : Int} {a2_ea : Int} {a3_b : Int} {a4_eb : Int} {r : List (List Int)} {w : World} {v1 : Value} (hF : F_spec_l15Pairs n a0_list a1_a a2_ea a3_b a4_eb = some r) (ha2 : slRep C_Clock w (Iv 0 w.heap.size) a0_list v1) :
    Calls Tryd.prog 48 [v1, .int .i64 a1_a, .int .i64 a2_ea, .int .i64 a3_b, .int .i64 a4_eb].toArray w (Ret fun u w2 => ∃ v0_0, u = v0_0 ∧ ownR (cSl (cInt .i64)) w2 w.heap.size (SX w.heap.size w2.heap.size v0_0) 42 r v0_0 ∧ Ext w w2) := by
  refine calls_of Tryd.func48 rfl Tryd.ntmps48 ?_
  have he0 : Ext w w := Ext.refl w
  unfold F_spec_l15Pairs at hF
  refine WC.seq ?_
  refine WC.region ?_
  refine TL.yld rfl rfl (yld_assign rfl rfl) ?_
  refine TL.done ?_
  refine NX.seq ?_
  refine WC.seq ?_
  refine WC.region ?_
  refine TL.eff rfl rfl (eff_buildSlice (c := (cSl (cInt .i64))) (xs := ([] : List (List Int))) (S := (Iv w.heap.size w.heap.size)) (uss := []) (out := []) rfl Tryd.underlying38 in_42 rfl rfl (fillL_all [] rfl rfl rfl) rfl rfl rfl rfl (one_rep (uss := []) (show reps _ _ _ _ _ from trivial) rfl) (fun k h => by have := h.2; omega) rfl) ?_
  rintro v3 w4 ⟨g5, hv6, hg7, hz8, hx9, hs10⟩
  have he11 : Ext w w4 := Ext.trans he0 hx9
  have hz12 := (hx9).size
  have hlo13 : w.heap.size ≤ g5 := by rw [hg7]; exact (he0).size
  have hs10 := ownR.litN hs10 hv6 (by omega) (by omega)
  have hbd14 := bd_of hv6
  clear hv6
  refine TL.yld rfl rfl (yld_assign rfl rfl) ?_
  refine TL.done ?_
  refine NX.seq ?_
  refine WC.seq ?_
  refine WC.region ?_
  refine TL.yld rfl rfl (yld_move rfl rfl) ?_
  refine TL.yld rfl rfl (yld_move rfl rfl) ?_
  refine TL.yld rfl rfl (yld_move rfl rfl) ?_
  obtain ⟨r16, hr17, hF⟩ := bsome hF
  refine TL.eff rfl rfl (eff_call rfl gf_95 rfl (W_spec_l14Hyper hr17 ((slRep.old ha2 he11 (Nat.le_refl _)).wide (Nat.le_refl _) (he11).size))) ?_
  rintro _ w18 ⟨rfl, hx19⟩
  have he20 : Ext w w18 := Ext.trans he11 hx19
  have hs10 := ownR.extN hs10 hx19 (by omega)
  have hz21 := (hx19).size
  refine TL.yld rfl rfl (yld_assign rfl rfl) ?_
  refine TL.done ?_
  refine NX.seq ?_
  refine WC.seq ?_
  refine WC.region ?_
  refine TL.yld rfl rfl (yld_move rfl rfl) ?_
  refine TL.yld rfl rfl (yld_move rfl rfl) ?_
  obtain ⟨r22, hr23, hF⟩ := bsome hF
  refine TL.eff rfl rfl (eff_call rfl gf_51 rfl (W_spec_l14Of hr23 ((slRep.old ha2 he20 (Nat.le_refl _)).wide (Nat.le_refl _) (he20).size))) ?_
  rintro _ w24 ⟨rfl, hx25⟩
  have he26 : Ext w w24 := Ext.trans he20 hx25
  have hs10 := ownR.extN hs10 hx25 (by omega)
  have hz27 := (hx25).size
  refine TL.yld rfl rfl (yld_move rfl rfl) ?_
  refine TL.yld rfl rfl (yld_move rfl rfl) ?_
  obtain ⟨r28, hr29, hF⟩ := bsome hF
  refine TL.eff rfl rfl (eff_call rfl gf_51 rfl (W_spec_l14Of hr29 ((slRep.old ha2 he26 (Nat.le_refl _)).wide (Nat.le_refl _) (he26).size))) ?_
  rintro _ w30 ⟨rfl, hx31⟩
  have he32 : Ext w w30 := Ext.trans he26 hx31
  have hs10 := ownR.extN hs10 hx31 (by omega)
  have hz33 := (hx31).size
  refine TL.eff rfl rfl (eff_alloc rfl zn_79) ?_
  rintro _ w35 ⟨b34, rfl, hn36⟩
  obtain ⟨hn36e, hn36s, hn36x, hb37⟩ := hn36
  have hb37 : Box w35 b34 [.int .i64 0, .int .i64 0, .int .i64 0] 79 := hb37
  have he39 : Ext w w35 := Ext.trans he32 hn36x
  have hs10 := ownR.extN hs10 hn36x (by omega)
  have hz40 := (hn36x).size
  have hlo38 : w.heap.size ≤ b34 := by rw [hn36e]; exact (he32).size
  refine TL.eff rfl rfl (eff_alloc rfl zn_79) ?_
  rintro _ w42 ⟨b41, rfl, hn43⟩
  obtain ⟨hn43e, hn43s, hn43x, hb44⟩ := hn43
  have hb44 : Box w42 b41 [.int .i64 0, .int .i64 0, .int .i64 0] 79 := hb44
  have he46 : Ext w w42 := Ext.trans he39 hn43x
  have hb37 := Box.ext hb37 hn43x
  have hs10 := ownR.extN hs10 hn43x (by omega)
  have hz47 := (hn43x).size
  have hlo45 : w.heap.size ≤ b41 := by rw [hn43e]; exact (he39).size
  refine TL.eff rfl rfl (eff_store rfl rfl rfl hb37 cn_79 rfl rfl) ?_
  rintro _ w48 ⟨hu49, hb50⟩
  have he51 : Ext w w48 := Below.trans he46 (Upd.below hu49 (by omega))
  have hb44 := Box.upd hb44 hu49 (by omega)
  have hs10 := ownR.updN hs10 hu49 (fun g hg => by have := hbd14 g hg; omega) (by omega)
  have hz52 := (hu49).size
  have hb37 : Box w48 b34 [.int .i64 r22.period_, .int .i64 r22.rise_, .int .i64 r22.fall_] 79 := hb50
  refine TL.eff rfl rfl (eff_store rfl rfl rfl hb44 cn_79 rfl rfl) ?_
  rintro _ w53 ⟨hu54, hb55⟩
  have he56 : Ext w w53 := Below.trans he51 (Upd.below hu54 (by omega))
  have hb37 := Box.upd hb37 hu54 (by omega)
  have hs10 := ownR.updN hs10 hu54 (fun g hg => by have := hbd14 g hg; omega) (by omega)
  have hz57 := (hu54).size
  have hb44 : Box w53 b41 [.int .i64 r28.period_, .int .i64 r28.rise_, .int .i64 r28.fall_] 79 := hb55
  refine TL.done ?_
  refine NX.seq ?_
  refine WC.seq ?_
  refine WC.seq ?_
  refine WC.region ?_
  refine TL.yld rfl rfl (yld_loadN (us := [.int .i64 r22.period_, .int .i64 r22.rise_, .int .i64 r22.fall_]) rfl ag_79 rfl (Box.cells hb37) cn_79) ?_
  refine TL.yld rfl rfl (yld_move rfl rfl) ?_
  obtain ⟨r58, hr59, hF⟩ := bsome hF
  refine TL.eff rfl rfl (eff_call rfl gf_96 rfl (W_spec_l14After hr59)) ?_
  rintro _ w60 ⟨rfl, hx61⟩
  have he62 : Ext w w60 := Ext.trans he56 hx61
  have hb37 := Box.ext hb37 hx61
  have hb44 := Box.ext hb44 hx61
  have hs10 := ownR.extN hs10 hx61 (by omega)
  have hz63 := (hx61).size
  refine TL.yld rfl rfl (yld_assign rfl rfl) ?_
  refine TL.done ?_
  refine NX.seq ?_
  refine WC.block ?_
  refine WC.loop (fun m75 a wl => ∃ (l66 : List (List Int)) (v67 : Value) (i70 : Int), Kn 48 [(4, .int .i64 a4_eb), (11, v67), (12, .int .i64 r16), (13, .pointer (some ⟨b34, 0, none⟩)), (14, .pointer (some ⟨b41, 0, none⟩)), (15, .int .i64 i70)] a ∧ Ext w wl ∧ w60.heap.size ≤ wl.heap.size ∧ Box wl b34 [.int .i64 r22.period_, .int .i64 r22.rise_, .int .i64 r22.fall_] 79 ∧ Box wl b41 [.int .i64 r28.period_, .int .i64 r28.rise_, .int .i64 r28.fall_] 79 ∧ ownR (cSl (cInt .i64)) wl (w.heap.size) (SX (w.heap.size) wl.heap.size v67) 42 l66 v67 ∧ (∀ q, v67.ownBlock = some q → w.heap.size ≤ q ∧ q < wl.heap.size) ∧ (∀ g, v67.ownBlock = some g → g ≠ b34) ∧ (∀ g, v67.ownBlock = some g → g ≠ b41) ∧ F_spec_l15Pairs_L1 n a4_eb r16 r22 r28 (fun l66 i70 => (some l66)) m75 l66 i70 = some r) n ?_ ?_
  · intro a hK; exact ⟨(([] : List (List Int))), v3, r58, hK.weaken ⟨rfl, rfl, rfl, rfl, rfl, rfl, trivial⟩, he62, Nat.le_refl _, hb37, hb44, (ownR.wideN hs10 (by omega)), (fun g hg => by have := hbd14 g hg; omega), (fun g hg => by have := hbd14 g hg; omega), (fun g hg => by have := hbd14 g hg; omega), hF⟩
  · rintro m75 a w64 ⟨l66, v67, i70, hK, he65, hz76, hb71, hb72, hs68, hbd69, hp73, hp74, hF⟩
    revert hK; revert a; refine (?_ : WC _ _ _ _ _ _)
    cases m75 with
    | zero => rw [F_spec_l15Pairs_L1_z] at hF; cases hF
    | succ m75 =>
      rw [F_spec_l15Pairs_L1_s] at hF
      refine WC.seq ?_
      refine WC.seq ?_
      refine WC.region ?_
      refine TL.yld rfl rfl (yld_move rfl rfl) ?_
      refine TL.yld rfl rfl (yld_move rfl rfl) ?_
      refine TL.yld rfl rfl (yld_lss rfl rfl rfl) ?_
      refine TL.done ?_
      refine NX.seq ?_
      refine WC.cond rfl ?_ ?_
      · intro hc77
        replace hF := bif_t hc77 hF
        refine WC.skip' ?_
        refine NX.seq ?_
        refine WC.seq ?_
        refine WC.block ?_
        refine WC.region ?_
        refine TL.yld rfl rfl (yld_move rfl rfl) ?_
        refine TL.yld rfl rfl (yld_move rfl rfl) ?_
        refine TL.yld rfl rfl (yld_loadN (us := [.int .i64 r28.period_, .int .i64 r28.rise_, .int .i64 r28.fall_]) rfl ag_79 rfl (Box.cells hb72) cn_79) ?_
        refine TL.yld rfl rfl (yld_move rfl rfl) ?_
        refine TL.yld rfl rfl (yld_move rfl rfl) ?_
        refine TL.yld rfl rfl (yld_add rfl rfl rfl) ?_
        obtain ⟨r78, hr79, hF⟩ := bsome hF
        refine TL.eff rfl rfl (eff_call rfl gf_96 rfl (W_spec_l14After hr79)) ?_
        rintro _ w80 ⟨rfl, hx81⟩
        have he82 : Ext w w80 := Ext.trans he65 hx81
        have hb71 := Box.ext hb71 hx81
        have hb72 := Box.ext hb72 hx81
        have hs68 := ownR.extN hs68 hx81 (by omega)
        have hz83 := (hx81).size
        refine TL.eff rfl rfl (eff_buildSlice (c := (cInt .i64)) (xs := [i70, r78]) (S := (Iv 0 0)) (uss := [(0, [.int .i64 i70]), (1, [.int .i64 r78])]) (out := [.int .i64 i70, .int .i64 r78]) rfl Tryd.underlying42 in_2 rfl rfl (fillL_all [[.int .i64 i70], [.int .i64 r78]] rfl rfl rfl) rfl rfl rfl rfl (one_rep (uss := [[.int .i64 i70], [.int .i64 r78]]) (show reps _ _ _ _ _ from ⟨rfl, rfl, trivial⟩) rfl) (fun k h => by have := h.2; omega) rfl) ?_
        rintro v84 w85 ⟨g86, hv87, hg88, hz89, hx90, hs91⟩
        have he92 : Ext w w85 := Ext.trans he82 hx90
        have hb71 := Box.ext hb71 hx90
        have hb72 := Box.ext hb72 hx90
        have hs68 := ownR.extN hs68 hx90 (by omega)
        have hz93 := (hx90).size
        have hlo94 : w.heap.size ≤ g86 := by rw [hg88]; exact (he82).size
        have hbd95 := bd_of hv87
        clear hv87
        refine TL.eff rfl rfl (eff_buildSlice (c := (cSl (cInt .i64))) (xs := [[i70, r78]]) (S := (Iv g86 w85.heap.size)) (uss := [(0, [v84])]) (out := [v84]) rfl Tryd.underlying38 in_42 rfl (pt_cons (slRep.cl (ownR.slf hs91 (Nat.le_refl _) (Nat.le_refl _))) rfl) (fillL_all [[v84]] rfl rfl rfl) rfl rfl rfl rfl (one_rep (uss := [[v84]]) (show reps _ _ _ _ _ from ⟨⟨_, rfl, ((ownR.slf hs91 (Nat.le_refl _) (Nat.le_refl _)).wide (by omega) (by omega))⟩, trivial⟩) rfl) (fun k h => by have := h.2; omega) rfl) ?_
        rintro v97 w98 ⟨g99, hv100, hg101, hz102, hx103, hs104⟩
        have he105 : Ext w w98 := Ext.trans he92 hx103
        have hb71 := Box.ext hb71 hx103
        have hb72 := Box.ext hb72 hx103
        have hs68 := ownR.extN hs68 hx103 (by omega)
        have hs91 := ownR.ext hs91 hx103
        have hz106 := (hx103).size
        have hlo107 : w.heap.size ≤ g99 := by rw [hg101]; exact (he92).size
        have hs104 := ownR.litN hs104 hv100 (by omega) (by omega)
        have hbd108 := bd_of hv100
        clear hv100
        obtain ⟨z110, ha111, hF⟩ := bsome hF
        refine TL.eff rfl rfl (eff_appendN (c := (cSl (cInt .i64))) rfl Tryd.underlying38 in_42 rfl rfl rfl rfl rfl hs68 (by omega) (by omega) (ownR.slN hs104 (Nat.le_refl _) (Nat.le_refl _) (by omega)) (by omega) (by omega) (fun g hg => by have := hbd69 g hg; omega) ha111) ?_
        rintro v112 w113 ⟨hs114, hgr115⟩
        have he117 : Ext w w113 := Below.trans he105 (Grew.low hgr115 (fun g hg => by have := hbd69 g hg; omega) (he105).size)
        have hp118 : ∀ g, v112.ownBlock = some g → g ≠ b34 := Grew.sepP (p := fun g => g ≠ b34) hgr115 hp73 (fun g hg => by omega)
        have hb71 := Grew.box hgr115 hb71 hp73
        have hp119 : ∀ g, v112.ownBlock = some g → g ≠ b41 := Grew.sepP (p := fun g => g ≠ b41) hgr115 hp74 (fun g hg => by omega)
        have hb72 := Grew.box hgr115 hb72 hp74
        have hp120 : ∀ g q, v67.ownBlock = some g → v84.ownBlock = some q → g ≠ q := (fun g q hg hq => by have := hbd69 g hg; have := hbd95 q hq; omega)
        have hp121 : ∀ g q, v112.ownBlock = some g → v84.ownBlock = some q → g ≠ q := fun g q hg hq => Grew.sepP (p := fun g => ∀ q, v84.ownBlock = some q → g ≠ q) hgr115 (fun g hg q hq => (hp120) g q hg hq) (fun g hg q hq => by have := hbd95 q hq; omega) g hg q hq
        have hs91 := Grew.ownF hgr115 hs91 hp120
        have hp122 : ∀ g q, v67.ownBlock = some g → v97.ownBlock = some q → g ≠ q := (fun g q hg hq => by have := hbd69 g hg; have := hbd108 q hq; omega)
        have hp123 : ∀ g q, v112.ownBlock = some g → v97.ownBlock = some q → g ≠ q := fun g q hg hq => Grew.sepP (p := fun g => ∀ q, v97.ownBlock = some q → g ≠ q) hgr115 (fun g hg q hq => (hp122) g q hg hq) (fun g hg q hq => by have := hbd108 q hq; omega) g hg q hq
        have hs104 := Grew.ownN hgr115 hs104 hp122 (by omega) (fun g hg => by have := hbd69 g hg; omega)
        have hz124 := (hgr115).1.size
        have hbd125 : ∀ g, v112.ownBlock = some g → w.heap.size ≤ g ∧ g < w113.heap.size := Grew.bd hgr115 hs114 (fun g hg => ⟨by have := hbd69 g hg; omega, (hbd69 g hg).2⟩) (by omega) (by omega)
        refine TL.yld rfl rfl (yld_assign rfl rfl) ?_
        refine TL.done ?_
        refine NX.blk_n ?_
        refine NX.seq ?_
        refine WC.region ?_
        refine TL.yld rfl rfl (yld_move rfl rfl) ?_
        refine TL.yld rfl rfl (yld_fieldAddr rfl fo_79_0 rfl) ?_
        refine TL.yld rfl rfl (yld_load1 0 rfl ag_2 rfl (Box.cells hb71) rfl rfl) ?_
        refine TL.yld rfl rfl (yld_add rfl rfl rfl) ?_
        refine TL.yld rfl rfl (yld_assign rfl rfl) ?_
        refine TL.done ?_
        refine NX.then_n ?_
        intro a hK; exact ⟨m75, Nat.lt_succ_self m75, z110, v112, (IntKind.wrap IntKind.i64 (i70 + r22.period_)), hK.weaken ⟨rfl, rfl, rfl, rfl, rfl, rfl, trivial⟩, he117, (by omega), hb71, hb72, (ownR.wideN hs114 (by omega)), (fun g hg => by have := hbd125 g hg; omega), hp118, hp119, hF⟩
      · intro hc126
        replace hF := bif_f hc126 hF
        refine WC.exit' ?_
        refine NX.then_e ?_
        refine NX.then_e ?_
        refine NX.blk_hit ?_
        refine NX.seq ?_
        refine WC.seq ?_
        refine WC.region ?_
        refine TL.yld rfl rfl (yld_move rfl rfl) ?_
        refine TL.yld rfl rfl (yld_assign rfl rfl) ?_
        refine TL.done ?_
        refine NX.seq ?_
        refine WC.ret' ?_
        obtain rfl := Option.some.inj hF
        exact NX.end (rs := [.tmp 10]) (vs := [v67]) rfl ⟨rfl, trivial⟩ ⟨_, rfl, _, rfl, ownR.baseN (ownR.wideN hs68 (by omega)) (by omega), he65⟩

-- loop.example/g00861/spec.EdgePairs
def F_spec_EdgePairs (n : Nat) (a0_list : List S_Clock) (a1_a : Int) (a2_ea : Int) (a3_b : Int) (a4_eb : Int) : Option ((List (List Int)) × Int) := (Option.bind (F_spec_l15Code n a0_list a1_a a2_ea a3_b a4_eb) fun r3 => (bif (r3 != 0) then (some (([] : List (List Int)), r3)) else (Option.bind (F_spec_l15Pairs n a0_list a1_a a2_ea a3_b a4_eb) fun r24 => (some (r24, 0)))))
set_option maxHeartbeats 40000000 in
theorem W_spec_EdgePairs {n : Nat} {a0_list : List S_Clock} {a1_a : Int} {a2_ea : Int} {a3_b : Int} {a4_eb : Int} {r : (List (List Int)) × Int} {w : World} {v1 : Value} (hF : F_spec_EdgePairs n a0_list a1_a a2_ea a3_b a4_eb = some r) (ha2 : slRep C_Clock w (Iv 0 w.heap.size) a0_list v1) :
    Calls Tryd.prog 26 [v1, .int .i64 a1_a, .int .i64 a2_ea, .int .i64 a3_b, .int .i64 a4_eb].toArray w (Ret fun u w2 => ∃ v0_0, u = .tuple #[v0_0, .int .i64 r.2] ∧ ownR (cSl (cInt .i64)) w2 w.heap.size (SX w.heap.size w2.heap.size v0_0) 42 r.1 v0_0 ∧ Ext w w2) := by
  refine calls_of Tryd.func26 rfl Tryd.ntmps26 ?_
  have he0 : Ext w w := Ext.refl w
  unfold F_spec_EdgePairs at hF
  refine WC.seq ?_
  refine WC.region ?_
  refine TL.yld rfl rfl (yld_assign rfl rfl) ?_
  refine TL.yld rfl rfl (yld_assign rfl rfl) ?_
  refine TL.done ?_
  refine NX.seq ?_
  refine WC.seq ?_
  refine WC.seq ?_
  refine WC.region ?_
  refine TL.yld rfl rfl (yld_move rfl rfl) ?_
  refine TL.yld rfl rfl (yld_move rfl rfl) ?_
  refine TL.yld rfl rfl (yld_move rfl rfl) ?_
  refine TL.yld rfl rfl (yld_move rfl rfl) ?_
  refine TL.yld rfl rfl (yld_move rfl rfl) ?_
  obtain ⟨r3, hr4, hF⟩ := bsome hF
  refine TL.eff rfl rfl (eff_call rfl gf_47 rfl (W_spec_l15Code hr4 ((slRep.old ha2 he0 (Nat.le_refl _)).wide (Nat.le_refl _) (he0).size))) ?_
  rintro _ w5 ⟨rfl, hx6⟩
  have he7 : Ext w w5 := Ext.trans he0 hx6
  have hz8 := (hx6).size
  refine TL.yld rfl rfl (yld_assign rfl rfl) ?_
  refine TL.done ?_
  refine NX.seq ?_
  refine WC.seq ?_
  refine WC.region ?_
  refine TL.yld rfl rfl (yld_move rfl rfl) ?_
  refine TL.yld rfl rfl (yld_neq rfl rfl rfl) ?_
  refine TL.done ?_
  refine NX.seq ?_
  refine WC.cond rfl ?_ ?_
  · intro hc9
    replace hF := bif_t hc9 hF
    refine WC.seq ?_
    refine WC.region ?_
    refine TL.eff rfl rfl (eff_buildSlice (c := (cSl (cInt .i64))) (xs := ([] : List (List Int))) (S := (Iv w5.heap.size w5.heap.size)) (uss := []) (out := []) rfl Tryd.underlying38 in_42 rfl rfl (fillL_all [] rfl rfl rfl) rfl rfl rfl rfl (one_rep (uss := []) (show reps _ _ _ _ _ from trivial) rfl) (fun k h => by have := h.2; omega) rfl) ?_
    rintro v10 w11 ⟨g12, hv13, hg14, hz15, hx16, hs17⟩
    have he18 : Ext w w11 := Ext.trans he7 hx16
    have hz19 := (hx16).size
    have hlo20 : w.heap.size ≤ g12 := by rw [hg14]; exact (he7).size
    have hs17 := ownR.litN hs17 hv13 (by omega) (by omega)
    have hbd21 := bd_of hv13
    clear hv13
    refine TL.yld rfl rfl (yld_move rfl rfl) ?_
    refine TL.yld rfl rfl (yld_assign rfl rfl) ?_
    refine TL.yld rfl rfl (yld_assign rfl rfl) ?_
    refine TL.done ?_
    refine NX.seq ?_
    refine WC.ret' ?_
    refine NX.then_r ?_
    obtain rfl := Option.some.inj hF
    exact NX.end (rs := [.tmp 10, .tmp 11]) (vs := [v10, .int .i64 r3]) rfl ⟨rfl, rfl, trivial⟩ ⟨_, rfl, _, rfl, ownR.baseN (ownR.wideN hs17 (by omega)) (by omega), he18⟩
  · intro hc23
    replace hF := bif_f hc23 hF
    refine WC.skip' ?_
    refine NX.seq ?_
    refine WC.seq ?_
    refine WC.region ?_
    refine TL.yld rfl rfl (yld_move rfl rfl) ?_
    refine TL.yld rfl rfl (yld_move rfl rfl) ?_
    refine TL.yld rfl rfl (yld_move rfl rfl) ?_
    refine TL.yld rfl rfl (yld_move rfl rfl) ?_
    refine TL.yld rfl rfl (yld_move rfl rfl) ?_
    obtain ⟨r24, hr25, hF⟩ := bsome hF
    refine TL.eff rfl rfl (eff_call rfl gf_48 rfl (W_spec_l15Pairs hr25 ((slRep.old ha2 he7 (Nat.le_refl _)).wide (Nat.le_refl _) (he7).size))) ?_
    rintro v28 w26 ⟨_, rfl, hs29, hx27⟩
    have he32 : Ext w w26 := Ext.trans he7 hx27
    have hz33 := (hx27).size
    have hbd31 := ownR.blk hs29
    refine TL.yld rfl rfl (yld_assign rfl rfl) ?_
    refine TL.yld rfl rfl (yld_assign rfl rfl) ?_
    refine TL.done ?_
    refine NX.seq ?_
    refine WC.ret' ?_
    obtain rfl := Option.some.inj hF
    exact NX.end (rs := [.tmp 10, .tmp 11]) (vs := [v28, .int .i64 0]) rfl ⟨rfl, rfl, trivial⟩ ⟨_, rfl, _, rfl, ownR.baseN (ownR.wideN hs29 (by omega)) (by omega), he32⟩

-- loop.example/g00861/impl.HyperPeriod
def F_impl_HyperPeriod (n : Nat) (a0_list : List S_Clock) (a1_a : Int) (a2_b : Int) : Option (Int × Int) := (Option.bind (F_impl_clockCode n a0_list ([a1_a, a2_b])) fun r16 => (bif (r16 != 0) then (some (0, r16)) else (Option.bind (F_impl_hyperPeriod n a0_list a1_a a2_b) fun r24 => (bif decide (r24 > 100000000) then (some (0, 3)) else (some (r24, 0))))))
set_option maxHeartbeats 40000000 in
theorem W_impl_HyperPeriod {n : Nat} {a0_list : List S_Clock} {a1_a : Int} {a2_b : Int} {r : Int × Int} {w : World} {v1 : Value} (hF : F_impl_HyperPeriod n a0_list a1_a a2_b = some r) (ha2 : slRep C_Clock w (Iv 0 w.heap.size) a0_list v1) :
    Calls Tryd.prog 27 [v1, .int .i64 a1_a, .int .i64 a2_b].toArray w (Ret fun u w2 => u = .tuple #[.int .i64 r.1, .int .i64 r.2] ∧ Ext w w2) := by
  refine calls_of Tryd.func27 rfl Tryd.ntmps27 ?_
  have he0 : Ext w w := Ext.refl w
  unfold F_impl_HyperPeriod at hF
  refine WC.seq ?_
  refine WC.region ?_
  refine TL.yld rfl rfl (yld_assign rfl rfl) ?_
  refine TL.yld rfl rfl (yld_assign rfl rfl) ?_
  refine TL.done ?_
  refine NX.seq ?_
  refine WC.seq ?_
  refine WC.seq ?_
  refine WC.region ?_
  refine TL.yld rfl rfl (yld_move rfl rfl) ?_
  refine TL.yld rfl rfl (yld_move rfl rfl) ?_
  refine TL.yld rfl rfl (yld_move rfl rfl) ?_
  refine TL.eff rfl rfl (eff_buildSlice (c := (cInt .i64)) (xs := [a1_a, a2_b]) (S := (Iv 0 0)) (uss := [(0, [.int .i64 a1_a]), (1, [.int .i64 a2_b])]) (out := [.int .i64 a1_a, .int .i64 a2_b]) rfl Tryd.underlying42 in_2 rfl rfl (fillL_all [[.int .i64 a1_a], [.int .i64 a2_b]] rfl rfl rfl) rfl rfl rfl rfl (one_rep (uss := [[.int .i64 a1_a], [.int .i64 a2_b]]) (show reps _ _ _ _ _ from ⟨rfl, rfl, trivial⟩) rfl) (fun k h => by have := h.2; omega) rfl) ?_
  rintro v3 w4 ⟨g5, hv6, hg7, hz8, hx9, hs10⟩
  have he11 : Ext w w4 := Ext.trans he0 hx9
  have hz12 := (hx9).size
  have hlo13 : w.heap.size ≤ g5 := by rw [hg7]; exact (he0).size
  have hbd14 := bd_of hv6
  clear hv6
  obtain ⟨r16, hr17, hF⟩ := bsome hF
  refine TL.eff rfl rfl (eff_call rfl gf_60 rfl (W_impl_clockCode hr17 ((slRep.old ha2 he11 (Nat.le_refl _)).wide (Nat.le_refl _) (he11).size) (ownR.slf hs10 (Nat.zero_le _) (Nat.le_refl _)))) ?_
  rintro _ w18 ⟨rfl, hx19⟩
  have he20 : Ext w w18 := Ext.trans he11 hx19
  have hs10 := ownR.ext hs10 hx19
  have hz21 := (hx19).size
  refine TL.yld rfl rfl (yld_assign rfl rfl) ?_
  refine TL.done ?_
  refine NX.seq ?_
  refine WC.seq ?_
  refine WC.region ?_
  refine TL.yld rfl rfl (yld_move rfl rfl) ?_
  refine TL.yld rfl rfl (yld_neq rfl rfl rfl) ?_
  refine TL.done ?_
  refine NX.seq ?_
  refine WC.cond rfl ?_ ?_
  · intro hc22
    replace hF := bif_t hc22 hF
    refine WC.seq ?_
    refine WC.region ?_
    refine TL.yld rfl rfl (yld_move rfl rfl) ?_
    refine TL.yld rfl rfl (yld_assign rfl rfl) ?_
    refine TL.yld rfl rfl (yld_assign rfl rfl) ?_
    refine TL.done ?_
    refine NX.seq ?_
    refine WC.ret' ?_
    refine NX.then_r ?_
    obtain rfl := Option.some.inj hF
    exact NX.end (rs := [.tmp 6, .tmp 7]) (vs := [.int .i64 0, .int .i64 r16]) rfl ⟨rfl, rfl, trivial⟩ ⟨_, rfl, rfl, he20⟩
  · intro hc23
    replace hF := bif_f hc23 hF
    refine WC.skip' ?_
    refine NX.seq ?_
    refine WC.seq ?_
    refine WC.region ?_
    refine TL.yld rfl rfl (yld_move rfl rfl) ?_
    refine TL.yld rfl rfl (yld_move rfl rfl) ?_
    refine TL.yld rfl rfl (yld_move rfl rfl) ?_
    obtain ⟨r24, hr25, hF⟩ := bsome hF
    refine TL.eff rfl rfl (eff_call rfl gf_61 rfl (W_impl_hyperPeriod hr25 ((slRep.old ha2 he20 (Nat.le_refl _)).wide (Nat.le_refl _) (he20).size))) ?_
    rintro _ w26 ⟨rfl, hx27⟩
    have he28 : Ext w w26 := Ext.trans he20 hx27
    have hs10 := ownR.ext hs10 hx27
    have hz29 := (hx27).size
    refine TL.yld rfl rfl (yld_assign rfl rfl) ?_
    refine TL.done ?_
    refine NX.seq ?_
    refine WC.seq ?_
    refine WC.seq ?_
    refine WC.region ?_
    refine TL.yld rfl rfl (yld_move rfl rfl) ?_
    refine TL.yld rfl rfl (yld_gtr rfl rfl rfl) ?_
    refine TL.done ?_
    refine NX.seq ?_
    refine WC.cond rfl ?_ ?_
    · intro hc30
      replace hF := bif_t hc30 hF
      refine WC.seq ?_
      refine WC.region ?_
      refine TL.yld rfl rfl (yld_assign rfl rfl) ?_
      refine TL.yld rfl rfl (yld_assign rfl rfl) ?_
      refine TL.done ?_
      refine NX.seq ?_
      refine WC.ret' ?_
      refine NX.then_r ?_
      obtain rfl := Option.some.inj hF
      exact NX.end (rs := [.tmp 6, .tmp 7]) (vs := [.int .i64 0, .int .i64 3]) rfl ⟨rfl, rfl, trivial⟩ ⟨_, rfl, rfl, he28⟩
    · intro hc31
      replace hF := bif_f hc31 hF
      refine WC.skip' ?_
      refine NX.seq ?_
      refine WC.seq ?_
      refine WC.region ?_
      refine TL.yld rfl rfl (yld_move rfl rfl) ?_
      refine TL.yld rfl rfl (yld_assign rfl rfl) ?_
      refine TL.yld rfl rfl (yld_assign rfl rfl) ?_
      refine TL.done ?_
      refine NX.seq ?_
      refine WC.ret' ?_
      obtain rfl := Option.some.inj hF
      exact NX.end (rs := [.tmp 6, .tmp 7]) (vs := [.int .i64 r24, .int .i64 0]) rfl ⟨rfl, rfl, trivial⟩ ⟨_, rfl, rfl, he28⟩

-- loop.example/g00861/impl.isTime
def F_impl_isTime (n : Nat) (a0_t : Int) : Option Bool := (Option.bind (F_impl_within n a0_t (-1000000000) 1000000000) fun r1 => (some r1))
set_option maxHeartbeats 40000000 in
theorem W_impl_isTime {n : Nat} {a0_t : Int} {r : Bool} {w : World} (hF : F_impl_isTime n a0_t = some r) :
    Calls Tryd.prog 63 [.int .i64 a0_t].toArray w (Ret fun u w2 => u = .bool r ∧ Ext w w2) := by
  refine calls_of Tryd.func63 rfl Tryd.ntmps63 ?_
  have he0 : Ext w w := Ext.refl w
  unfold F_impl_isTime at hF
  refine WC.seq ?_
  refine WC.region ?_
  refine TL.yld rfl rfl (yld_assign rfl rfl) ?_
  refine TL.done ?_
  refine NX.seq ?_
  refine WC.seq ?_
  refine WC.region ?_
  refine TL.yld rfl rfl (yld_move rfl rfl) ?_
  obtain ⟨r1, hr2, hF⟩ := bsome hF
  refine TL.eff rfl rfl (eff_call rfl gf_54 rfl (W_impl_within hr2)) ?_
  rintro _ w3 ⟨rfl, hx4⟩
  have he5 : Ext w w3 := Ext.trans he0 hx4
  have hz6 := (hx4).size
  refine TL.yld rfl rfl (yld_assign rfl rfl) ?_
  refine TL.done ?_
  refine NX.seq ?_
  refine WC.ret' ?_
  obtain rfl := Option.some.inj hF
  exact NX.end (rs := [.tmp 2]) (vs := [.bool r1]) rfl ⟨rfl, trivial⟩ ⟨_, rfl, rfl, he5⟩

-- loop.example/g00861/impl.NextEdge
def F_impl_NextEdge (n : Nat) (a0_list : List S_Clock) (a1_k : Int) (a2_edge : Int) (a3_time : Int) : Option (Int × Int) := (Option.bind (F_impl_clockCode n a0_list [a1_k]) fun r16 => (bif (r16 != 0) then (some (0, r16)) else (Option.bind (F_impl_isTransition n a2_edge) fun r24 => (Option.bind (bif (!r24) then (some true) else (Option.bind (F_impl_isTime n a3_time) fun r30 => (some (!r30)))) fun c30 => (bif c30 then (some (0, 2)) else (Option.bind (F_impl_waveOf n a0_list a1_k) fun r45 => (Option.bind (F_impl_wave_next n r45 a2_edge (IntKind.wrap IntKind.i64 (a3_time + 1))) fun r51 => (some (r51, 0)))))))))
set_option maxHeartbeats 40000000 in
theorem W_impl_NextEdge {n : Nat} {a0_list : List S_Clock} {a1_k : Int} {a2_edge : Int} {a3_time : Int} {r : Int × Int} {w : World} {v1 : Value} (hF : F_impl_NextEdge n a0_list a1_k a2_edge a3_time = some r) (ha2 : slRep C_Clock w (Iv 0 w.heap.size) a0_list v1) :
    Calls Tryd.prog 28 [v1, .int .i64 a1_k, .int .i64 a2_edge, .int .i64 a3_time].toArray w (Ret fun u w2 => u = .tuple #[.int .i64 r.1, .int .i64 r.2] ∧ Ext w w2) := by
  refine calls_of Tryd.func28 rfl Tryd.ntmps28 ?_
  have he0 : Ext w w := Ext.refl w
  unfold F_impl_NextEdge at hF
  refine WC.seq ?_
  refine WC.region ?_
  refine TL.yld rfl rfl (yld_assign rfl rfl) ?_
  refine TL.yld rfl rfl (yld_assign rfl rfl) ?_
  refine TL.done ?_
  refine NX.seq ?_
  refine WC.seq ?_
  refine WC.region ?_
  refine TL.yld rfl rfl (yld_move rfl rfl) ?_
  refine TL.yld rfl rfl (yld_move rfl rfl) ?_
  refine TL.eff rfl rfl (eff_buildSlice (c := (cInt .i64)) (xs := [a1_k]) (S := (Iv 0 0)) (uss := [(0, [.int .i64 a1_k])]) (out := [.int .i64 a1_k]) rfl Tryd.underlying42 in_2 rfl rfl (fillL_all [[.int .i64 a1_k]] rfl rfl rfl) rfl rfl rfl rfl (one_rep (uss := [[.int .i64 a1_k]]) (show reps _ _ _ _ _ from ⟨rfl, trivial⟩) rfl) (fun k h => by have := h.2; omega) rfl) ?_
  rintro v3 w4 ⟨g5, hv6, hg7, hz8, hx9, hs10⟩
  have he11 : Ext w w4 := Ext.trans he0 hx9
  have hz12 := (hx9).size
  have hlo13 : w.heap.size ≤ g5 := by rw [hg7]; exact (he0).size
  have hbd14 := bd_of hv6
  clear hv6
  obtain ⟨r16, hr17, hF⟩ := bsome hF
  refine TL.eff rfl rfl (eff_call rfl gf_60 rfl (W_impl_clockCode hr17 ((slRep.old ha2 he11 (Nat.le_refl _)).wide (Nat.le_refl _) (he11).size) (ownR.slf hs10 (Nat.zero_le _) (Nat.le_refl _)))) ?_
  rintro _ w18 ⟨rfl, hx19⟩
  have he20 : Ext w w18 := Ext.trans he11 hx19
  have hs10 := ownR.ext hs10 hx19
  have hz21 := (hx19).size
  refine TL.yld rfl rfl (yld_assign rfl rfl) ?_
  refine TL.done ?_
  refine NX.seq ?_
  refine WC.seq ?_
  refine WC.block ?_
  refine WC.seq ?_
  refine WC.region ?_
  refine TL.yld rfl rfl (yld_move rfl rfl) ?_
  refine TL.yld rfl rfl (yld_neq rfl rfl rfl) ?_
  refine TL.yld rfl rfl (yld_assign rfl rfl) ?_
  refine TL.done ?_
  refine NX.seq ?_
  refine WC.cond rfl ?_ ?_
  · intro hc22
    replace hF := bif_t hc22 hF
    refine WC.seq ?_
    refine WC.region ?_
    refine TL.yld rfl rfl (yld_move rfl rfl) ?_
    refine TL.yld rfl rfl (yld_assign rfl rfl) ?_
    refine TL.yld rfl rfl (yld_assign rfl rfl) ?_
    refine TL.done ?_
    refine NX.seq ?_
    refine WC.ret' ?_
    refine NX.blk_r ?_
    refine NX.then_r ?_
    obtain rfl := Option.some.inj hF
    exact NX.end (rs := [.tmp 8, .tmp 9]) (vs := [.int .i64 0, .int .i64 r16]) rfl ⟨rfl, rfl, trivial⟩ ⟨_, rfl, rfl, he20⟩
  · intro hc23
    replace hF := bif_f hc23 hF
    refine WC.seq ?_
    refine WC.region ?_
    refine TL.yld rfl rfl (yld_move rfl rfl) ?_
    obtain ⟨r24, hr25, hF⟩ := bsome hF
    refine TL.eff rfl rfl (eff_call rfl gf_62 rfl (W_impl_isTransition hr25)) ?_
    rintro _ w26 ⟨rfl, hx27⟩
    have he28 : Ext w w26 := Ext.trans he20 hx27
    have hs10 := ownR.ext hs10 hx27
    have hz29 := (hx27).size
    refine TL.yld rfl rfl (yld_not rfl rfl) ?_
    refine TL.yld rfl rfl (yld_move rfl rfl) ?_
    obtain ⟨c30, hb31, hF⟩ := bsome hF
    refine TL.cut 4 [(0, v1), (1, .int .i64 a1_k), (2, .int .i64 a2_edge), (3, .int .i64 a3_time), (27, .bool c30)] (fun w' => Ext w26 w') ?_ ?_
    · rcases Bool.eq_false_or_eq_true (!r24) with hg32 | hg32
      ·
        rw [hg32] at hb31; simp only [cond_true, cond_false] at hb31
        refine TL.gnu (j := 3) (t := 23) rfl rfl rfl hg32 rfl ?_
        refine TL.gnu (j := 3) (t := 23) rfl rfl rfl hg32 rfl ?_
        refine TL.gnu (j := 3) (t := 23) rfl rfl rfl hg32 rfl ?_
        obtain rfl := Option.some.inj hb31
        refine TL.yld rfl rfl (yld_pick_t rfl rfl hg32 rfl) ?_
        exact TL.nil fun a h => ⟨h.weaken ⟨rfl, rfl, rfl, rfl, rfl, trivial⟩, Ext.refl _⟩
      ·
        rw [hg32] at hb31; simp only [cond_true, cond_false] at hb31
        replace hF := hb31
        refine TL.gy (j := 3) (t := 23) rfl rfl rfl hg32 rfl (yld_move rfl rfl) ?_
        obtain ⟨r33, hr34, hF⟩ := bsome hF
        refine TL.ge (j := 3) (t := 23) rfl rfl rfl hg32 rfl (eff_call rfl gf_63 rfl (W_impl_isTime hr34)) ?_
        rintro _ w35 ⟨rfl, hx36⟩
        have he37 : Ext w w35 := Ext.trans he28 hx36
        have hs10 := ownR.ext hs10 hx36
        have hz38 := (hx36).size
        refine TL.gy (j := 3) (t := 23) rfl rfl rfl hg32 rfl (yld_not rfl rfl) ?_
        obtain rfl := Option.some.inj hF
        refine TL.yld rfl rfl (yld_pick_f rfl rfl hg32 rfl) ?_
        exact TL.nil fun a h => ⟨h.weaken ⟨rfl, rfl, rfl, rfl, rfl, trivial⟩, hx36⟩
    intro w39 hx40
    have he41 : Ext w w39 := Ext.trans he28 hx40
    have hs10 := ownR.ext hs10 hx40
    have hz42 := (hx40).size
    refine TL.yld rfl rfl (yld_assign rfl rfl) ?_
    refine TL.done ?_
    refine NX.seq ?_
    refine WC.cond rfl ?_ ?_
    · intro hc43
      replace hF := bif_t hc43 hF
      refine WC.seq ?_
      refine WC.region ?_
      refine TL.yld rfl rfl (yld_assign rfl rfl) ?_
      refine TL.yld rfl rfl (yld_assign rfl rfl) ?_
      refine TL.done ?_
      refine NX.seq ?_
      refine WC.ret' ?_
      refine NX.blk_r ?_
      refine NX.then_r ?_
      obtain rfl := Option.some.inj hF
      exact NX.end (rs := [.tmp 8, .tmp 9]) (vs := [.int .i64 0, .int .i64 2]) rfl ⟨rfl, rfl, trivial⟩ ⟨_, rfl, rfl, he41⟩
    · intro hc44
      replace hF := bif_f hc44 hF
      refine WC.skip' ?_
      refine NX.blk_n ?_
      refine NX.seq ?_
      refine WC.seq ?_
      refine WC.region ?_
      refine TL.yld rfl rfl (yld_move rfl rfl) ?_
      refine TL.yld rfl rfl (yld_move rfl rfl) ?_
      obtain ⟨r45, hr46, hF⟩ := bsome hF
      refine TL.eff rfl rfl (eff_call rfl gf_64 rfl (W_impl_waveOf hr46 ((slRep.old ha2 he41 (Nat.le_refl _)).wide (Nat.le_refl _) (he41).size))) ?_
      rintro _ w47 ⟨rfl, hx48⟩
      have he49 : Ext w w47 := Ext.trans he41 hx48
      have hs10 := ownR.ext hs10 hx48
      have hz50 := (hx48).size
      refine TL.yld rfl rfl (yld_move rfl rfl) ?_
      refine TL.yld rfl rfl (yld_move rfl rfl) ?_
      refine TL.yld rfl rfl (yld_add rfl rfl rfl) ?_
      obtain ⟨r51, hr52, hF⟩ := bsome hF
      refine TL.eff rfl rfl (eff_call rfl gf_65 rfl (W_impl_wave_next hr52)) ?_
      rintro _ w53 ⟨rfl, hx54⟩
      have he55 : Ext w w53 := Ext.trans he49 hx54
      have hs10 := ownR.ext hs10 hx54
      have hz56 := (hx54).size
      refine TL.yld rfl rfl (yld_assign rfl rfl) ?_
      refine TL.yld rfl rfl (yld_assign rfl rfl) ?_
      refine TL.done ?_
      refine NX.seq ?_
      refine WC.ret' ?_
      obtain rfl := Option.some.inj hF
      exact NX.end (rs := [.tmp 8, .tmp 9]) (vs := [.int .i64 r51, .int .i64 0]) rfl ⟨rfl, rfl, trivial⟩ ⟨_, rfl, rfl, he55⟩

-- loop.example/g00861/laws.FnEdgePairs
def F_laws_FnEdgePairs_L1 (n : Nat) (r11 : (List S_Clock) × Int × Int × Int × Int) (r21 : (List (List Int)) × Int) (r50 : Int × Int) (k0 : Int → Option Bool) : Nat → Int → Option Bool
  | 0 => fun _ => none
  | m + 1 => fun i58 => (bif decide (i58 < (r21.1.length : Int)) then (Option.bind (getI r21.1 i58) fun x62 => (Option.bind (bif (((x62.length : Int)) != 2) then (some true) else (Option.bind (getI r21.1 i58) fun x72 => (Option.bind (getI x72 0) fun x82 => (some (decide (x82 < 0)))))) fun c72 => (Option.bind (bif c72 then (some true) else (Option.bind (getI r21.1 i58) fun x93 => (Option.bind (getI x93 0) fun x103 => (some (decide (x103 ≥ r50.1)))))) fun c93 => (Option.bind (bif c93 then (some true) else (Option.bind (bif decide (i58 > 0) then (Option.bind (getI r21.1 (IntKind.wrap IntKind.i64 (i58 - 1))) fun x114 => (Option.bind (getI x114 0) fun x124 => (Option.bind (getI r21.1 i58) fun x132 => (Option.bind (getI x132 0) fun x142 => (some (decide (x124 ≥ x142))))))) else (some false)) fun c114 => (some c114))) fun c114 => (bif c114 then (some false) else (Option.bind (getI r21.1 i58) fun x162 => (Option.bind (getI x162 0) fun x172 => (Option.bind (F_impl_NextEdge n r11.1 r11.2.2.2.1 r11.2.2.2.2 x172) fun r180 => (Option.bind (getI r21.1 i58) fun x186 => (Option.bind (getI x186 0) fun x196 => (Option.bind (F_impl_NextEdge n r11.1 r11.2.1 r11.2.2.1 (IntKind.wrap IntKind.i64 (x196 - 1))) fun r204 => (Option.bind (bif (((r180.2 != 0)) || ((r204.2 != 0))) then (some true) else (Option.bind (getI r21.1 i58) fun x215 => (Option.bind (getI x215 1) fun x225 => (some ((r180.1 != x225)))))) fun c215 => (Option.bind (bif c215 then (some true) else (Option.bind (getI r21.1 i58) fun x240 => (Option.bind (getI x240 0) fun x250 => (some ((r204.1 != x250)))))) fun c240 => (bif c240 then (some false) else (F_laws_FnEdgePairs_L1 n r11 r21 r50 k0 m (IntKind.wrap IntKind.i64 (i58 + 1))))))))))))))))) else (k0 i58))
theorem F_laws_FnEdgePairs_L1_z (n : Nat) (r11 : (List S_Clock) × Int × Int × Int × Int) (r21 : (List (List Int)) × Int) (r50 : Int × Int) (k0 : Int → Option Bool) (i58 : Int) : F_laws_FnEdgePairs_L1 n r11 r21 r50 k0 0 i58 = none := rfl
theorem F_laws_FnEdgePairs_L1_s (m : Nat) (n : Nat) (r11 : (List S_Clock) × Int × Int × Int × Int) (r21 : (List (List Int)) × Int) (r50 : Int × Int) (k0 : Int → Option Bool) (i58 : Int) : F_laws_FnEdgePairs_L1 n r11 r21 r50 k0 (m + 1) i58 = (bif decide (i58 < (r21.1.length : Int)) then (Option.bind (getI r21.1 i58) fun x62 => (Option.bind (bif (((x62.length : Int)) != 2) then (some true) else (Option.bind (getI r21.1 i58) fun x72 => (Option.bind (getI x72 0) fun x82 => (some (decide (x82 < 0)))))) fun c72 => (Option.bind (bif c72 then (some true) else (Option.bind (getI r21.1 i58) fun x93 => (Option.bind (getI x93 0) fun x103 => (some (decide (x103 ≥ r50.1)))))) fun c93 => (Option.bind (bif c93 then (some true) else (Option.bind (bif decide (i58 > 0) then (Option.bind (getI r21.1 (IntKind.wrap IntKind.i64 (i58 - 1))) fun x114 => (Option.bind (getI x114 0) fun x124 => (Option.bind (getI r21.1 i58) fun x132 => (Option.bind (getI x132 0) fun x142 => (some (decide (x124 ≥ x142))))))) else (some false)) fun c114 => (some c114))) fun c114 => (bif c114 then (some false) else (Option.bind (getI r21.1 i58) fun x162 => (Option.bind (getI x162 0) fun x172 => (Option.bind (F_impl_NextEdge n r11.1 r11.2.2.2.1 r11.2.2.2.2 x172) fun r180 => (Option.bind (getI r21.1 i58) fun x186 => (Option.bind (getI x186 0) fun x196 => (Option.bind (F_impl_NextEdge n r11.1 r11.2.1 r11.2.2.1 (IntKind.wrap IntKind.i64 (x196 - 1))) fun r204 => (Option.bind (bif (((r180.2 != 0)) || ((r204.2 != 0))) then (some true) else (Option.bind (getI r21.1 i58) fun x215 => (Option.bind (getI x215 1) fun x225 => (some ((r180.1 != x225)))))) fun c215 => (Option.bind (bif c215 then (some true) else (Option.bind (getI r21.1 i58) fun x240 => (Option.bind (getI x240 0) fun x250 => (some ((r204.1 != x250)))))) fun c240 => (bif c240 then (some false) else (F_laws_FnEdgePairs_L1 n r11 r21 r50 k0 m (IntKind.wrap IntKind.i64 (i58 + 1))))))))))))))))) else (k0 i58)) := rfl

def F_laws_FnEdgePairs (n : Nat) (a0_code : List Int) : Option Bool := (Option.bind (F_laws_big n a0_code) fun r3 => (bif r3 then (some true) else (Option.bind (F_spec_DrawEdgePairs n a0_code) fun r11 => (Option.bind (F_impl_EdgePairs n r11.1 r11.2.1 r11.2.2.1 r11.2.2.2.1 r11.2.2.2.2) fun r21 => (Option.bind (F_spec_EdgePairs n r11.1 r11.2.1 r11.2.2.1 r11.2.2.2.1 r11.2.2.2.2) fun r31 => (bif (((r21.2 != r31.2)) || ((((r21.1.length : Int)) != ((r31.1.length : Int))))) then (some false) else (bif (r21.2 != 0) then (some true) else (Option.bind (F_impl_HyperPeriod n r11.1 r11.2.1 r11.2.2.2.1) fun r50 => (F_laws_FnEdgePairs_L1 n r11 r21 r50 (fun i58 => (some ((((r50.2 == 0)) && (decide ((r21.1.length : Int) > 0)))))) n 0)))))))))
set_option maxHeartbeats 40000000 in
theorem W_laws_FnEdgePairs {n : Nat} {a0_code : List Int} {r : Bool} {w : World} {v1 : Value} (hF : F_laws_FnEdgePairs n a0_code = some r) (ha2 : slRep (cInt .u8) w (Iv 0 w.heap.size) a0_code v1) :
    Calls Tryd.prog 7 [v1].toArray w (Ret fun u w2 => u = .bool r ∧ Ext w w2) := by
  refine calls_of Tryd.func7 rfl Tryd.ntmps7 ?_
  have he0 : Ext w w := Ext.refl w
  unfold F_laws_FnEdgePairs at hF
  refine WC.seq ?_
  refine WC.region ?_
  refine TL.yld rfl rfl (yld_assign rfl rfl) ?_
  refine TL.done ?_
  refine NX.seq ?_
  refine WC.seq ?_
  refine WC.seq ?_
  refine WC.region ?_
  refine TL.yld rfl rfl (yld_move rfl rfl) ?_
  obtain ⟨r3, hr4, hF⟩ := bsome hF
  refine TL.eff rfl rfl (eff_call rfl gf_23 rfl (W_laws_big hr4 ((slRep.old ha2 he0 (Nat.le_refl _)).wide (Nat.le_refl _) (he0).size))) ?_
  rintro _ w5 ⟨rfl, hx6⟩
  have he7 : Ext w w5 := Ext.trans he0 hx6
  have hz8 := (hx6).size
  refine TL.done ?_
  refine NX.seq ?_
  refine WC.cond rfl ?_ ?_
  · intro hc9
    replace hF := bif_t hc9 hF
    refine WC.seq ?_
    refine WC.region ?_
    refine TL.yld rfl rfl (yld_assign rfl rfl) ?_
    refine TL.done ?_
    refine NX.seq ?_
    refine WC.ret' ?_
    refine NX.then_r ?_
    obtain rfl := Option.some.inj hF
    exact NX.end (rs := [.tmp 2]) (vs := [.bool true]) rfl ⟨rfl, trivial⟩ ⟨_, rfl, rfl, he7⟩
  · intro hc10
    replace hF := bif_f hc10 hF
    refine WC.skip' ?_
    refine NX.seq ?_
    refine WC.seq ?_
    refine WC.region ?_
    refine TL.yld rfl rfl (yld_move rfl rfl) ?_
    obtain ⟨r11, hr12, hF⟩ := bsome hF
    refine TL.eff rfl rfl (eff_call rfl gf_24 rfl (W_spec_DrawEdgePairs hr12 ((slRep.old ha2 he7 (Nat.le_refl _)).wide (Nat.le_refl _) (he7).size))) ?_
    rintro _ w13 ⟨v15, rfl, hs16, hx14⟩
    have he19 : Ext w w13 := Ext.trans he7 hx14
    have hz20 := (hx14).size
    have hbd18 := ownR.blk hs16
    refine TL.yld rfl rfl (yld_move rfl rfl) ?_
    refine TL.yld rfl rfl (yld_extract rfl rfl rfl) ?_
    refine TL.yld rfl rfl (yld_extract rfl rfl rfl) ?_
    refine TL.yld rfl rfl (yld_extract rfl rfl rfl) ?_
    refine TL.yld rfl rfl (yld_extract rfl rfl rfl) ?_
    refine TL.yld rfl rfl (yld_extract rfl rfl rfl) ?_
    refine TL.yld rfl rfl (yld_assign rfl rfl) ?_
    refine TL.yld rfl rfl (yld_assign rfl rfl) ?_
    refine TL.yld rfl rfl (yld_assign rfl rfl) ?_
    refine TL.yld rfl rfl (yld_assign rfl rfl) ?_
    refine TL.yld rfl rfl (yld_assign rfl rfl) ?_
    refine TL.done ?_
    refine NX.seq ?_
    refine WC.seq ?_
    refine WC.region ?_
    refine TL.yld rfl rfl (yld_move rfl rfl) ?_
    refine TL.yld rfl rfl (yld_move rfl rfl) ?_
    refine TL.yld rfl rfl (yld_move rfl rfl) ?_
    refine TL.yld rfl rfl (yld_move rfl rfl) ?_
    refine TL.yld rfl rfl (yld_move rfl rfl) ?_
    obtain ⟨r21, hr22, hF⟩ := bsome hF
    refine TL.eff rfl rfl (eff_call rfl gf_25 rfl (W_impl_EdgePairs hr22 (ownR.slf hs16 (Nat.zero_le _) (Nat.le_refl _)))) ?_
    rintro _ w23 ⟨v25, rfl, hs26, hx24⟩
    have he29 : Ext w w23 := Ext.trans he19 hx24
    have hs16 := ownR.ext hs16 hx24
    have hz30 := (hx24).size
    have hbd28 := ownR.blk hs26
    refine TL.yld rfl rfl (yld_move rfl rfl) ?_
    refine TL.yld rfl rfl (yld_extract rfl rfl rfl) ?_
    refine TL.yld rfl rfl (yld_extract rfl rfl rfl) ?_
    refine TL.yld rfl rfl (yld_assign rfl rfl) ?_
    refine TL.yld rfl rfl (yld_assign rfl rfl) ?_
    refine TL.done ?_
    refine NX.seq ?_
    refine WC.seq ?_
    refine WC.region ?_
    refine TL.yld rfl rfl (yld_move rfl rfl) ?_
    refine TL.yld rfl rfl (yld_move rfl rfl) ?_
    refine TL.yld rfl rfl (yld_move rfl rfl) ?_
    refine TL.yld rfl rfl (yld_move rfl rfl) ?_
    refine TL.yld rfl rfl (yld_move rfl rfl) ?_
    obtain ⟨r31, hr32, hF⟩ := bsome hF
    refine TL.eff rfl rfl (eff_call rfl gf_26 rfl (W_spec_EdgePairs hr32 (ownR.slf hs16 (Nat.zero_le _) (Nat.le_refl _)))) ?_
    rintro _ w33 ⟨v35, rfl, hs36, hx34⟩
    have he39 : Ext w w33 := Ext.trans he29 hx34
    have hs16 := ownR.ext hs16 hx34
    have hs26 := ownR.extN hs26 hx34 (by omega)
    have hz40 := (hx34).size
    have hbd38 := ownR.blk hs36
    refine TL.yld rfl rfl (yld_move rfl rfl) ?_
    refine TL.yld rfl rfl (yld_extract rfl rfl rfl) ?_
    refine TL.yld rfl rfl (yld_extract rfl rfl rfl) ?_
    refine TL.yld rfl rfl (yld_assign rfl rfl) ?_
    refine TL.yld rfl rfl (yld_assign rfl rfl) ?_
    refine TL.done ?_
    refine NX.seq ?_
    refine WC.seq ?_
    refine WC.seq ?_
    refine WC.region ?_
    refine TL.yld rfl rfl (yld_move rfl rfl) ?_
    refine TL.yld rfl rfl (yld_move rfl rfl) ?_
    refine TL.yld rfl rfl (yld_neq rfl rfl rfl) ?_
    refine TL.yld rfl rfl (yld_move rfl rfl) ?_
    refine TL.cut 6 [(3, v15), (4, .int .i64 r11.2.1), (5, .int .i64 r11.2.2.1), (6, .int .i64 r11.2.2.2.1), (7, .int .i64 r11.2.2.2.2), (8, v25), (9, .int .i64 r21.2), (56, .bool ((((r21.2 != r31.2)) || ((((r21.1.length : Int)) != ((r31.1.length : Int)))))))] (fun w' => Ext w33 w') ?_ ?_
    · rcases Bool.eq_false_or_eq_true ((r21.2 != r31.2)) with hg41 | hg41
      ·
        refine TL.gnu (j := 3) (t := 50) rfl rfl rfl hg41 rfl ?_
        refine TL.gnu (j := 3) (t := 50) rfl rfl rfl hg41 rfl ?_
        refine TL.gnu (j := 3) (t := 50) rfl rfl rfl hg41 rfl ?_
        refine TL.gnu (j := 3) (t := 50) rfl rfl rfl hg41 rfl ?_
        refine TL.gnu (j := 3) (t := 50) rfl rfl rfl hg41 rfl ?_
        refine TL.yld rfl rfl (yld_or_t (b2 := (((r21.1.length : Int)) != ((r31.1.length : Int)))) rfl rfl hg41 rfl) ?_
        exact TL.nil fun a h => ⟨h.weaken ⟨rfl, rfl, rfl, rfl, rfl, rfl, rfl, rfl, trivial⟩, Ext.refl _⟩
      ·
        refine TL.gy (j := 3) (t := 50) rfl rfl rfl hg41 rfl (yld_move rfl rfl) ?_
        refine TL.gy (j := 3) (t := 50) rfl rfl rfl hg41 rfl (yld_len_own (c := (cSl (cInt .i64))) rfl Tryd.underlying38 rfl hs26) ?_
        refine TL.gy (j := 3) (t := 50) rfl rfl rfl hg41 rfl (yld_move rfl rfl) ?_
        refine TL.gy (j := 3) (t := 50) rfl rfl rfl hg41 rfl (yld_len_own (c := (cSl (cInt .i64))) rfl Tryd.underlying38 rfl hs36) ?_
        refine TL.gy (j := 3) (t := 50) rfl rfl rfl hg41 rfl (yld_neq rfl rfl rfl) ?_
        refine TL.yld rfl rfl (yld_or_f rfl rfl hg41 rfl) ?_
        exact TL.nil fun a h => ⟨h.weaken ⟨rfl, rfl, rfl, rfl, rfl, rfl, rfl, rfl, trivial⟩, Ext.refl _⟩
    intro w42 hx43
    have he44 : Ext w w42 := Ext.trans he39 hx43
    have hs16 := ownR.ext hs16 hx43
    have hs26 := ownR.extN hs26 hx43 (by omega)
    have hs36 := ownR.extN hs36 hx43 (by omega)
    have hz45 := (hx43).size
    refine TL.done ?_
    refine NX.seq ?_
    refine WC.cond rfl ?_ ?_
    · intro hc46
      replace hF := bif_t hc46 hF
      refine WC.seq ?_
      refine WC.region ?_
      refine TL.yld rfl rfl (yld_assign rfl rfl) ?_
      refine TL.done ?_
      refine NX.seq ?_
      refine WC.ret' ?_
      refine NX.then_r ?_
      obtain rfl := Option.some.inj hF
      exact NX.end (rs := [.tmp 2]) (vs := [.bool false]) rfl ⟨rfl, trivial⟩ ⟨_, rfl, rfl, he44⟩
    · intro hc47
      replace hF := bif_f hc47 hF
      refine WC.skip' ?_
      refine NX.seq ?_
      refine WC.seq ?_
      refine WC.seq ?_
      refine WC.region ?_
      refine TL.yld rfl rfl (yld_move rfl rfl) ?_
      refine TL.yld rfl rfl (yld_neq rfl rfl rfl) ?_
      refine TL.done ?_
      refine NX.seq ?_
      refine WC.cond rfl ?_ ?_
      · intro hc48
        replace hF := bif_t hc48 hF
        refine WC.seq ?_
        refine WC.region ?_
        refine TL.yld rfl rfl (yld_assign rfl rfl) ?_
        refine TL.done ?_
        refine NX.seq ?_
        refine WC.ret' ?_
        refine NX.then_r ?_
        obtain rfl := Option.some.inj hF
        exact NX.end (rs := [.tmp 2]) (vs := [.bool true]) rfl ⟨rfl, trivial⟩ ⟨_, rfl, rfl, he44⟩
      · intro hc49
        replace hF := bif_f hc49 hF
        refine WC.skip' ?_
        refine NX.seq ?_
        refine WC.seq ?_
        refine WC.region ?_
        refine TL.yld rfl rfl (yld_move rfl rfl) ?_
        refine TL.yld rfl rfl (yld_move rfl rfl) ?_
        refine TL.yld rfl rfl (yld_move rfl rfl) ?_
        obtain ⟨r50, hr51, hF⟩ := bsome hF
        refine TL.eff rfl rfl (eff_call rfl gf_27 rfl (W_impl_HyperPeriod hr51 (ownR.slf hs16 (Nat.zero_le _) (Nat.le_refl _)))) ?_
        rintro _ w52 ⟨rfl, hx53⟩
        have he54 : Ext w w52 := Ext.trans he44 hx53
        have hs16 := ownR.ext hs16 hx53
        have hs26 := ownR.extN hs26 hx53 (by omega)
        have hs36 := ownR.extN hs36 hx53 (by omega)
        have hz55 := (hx53).size
        refine TL.yld rfl rfl (yld_move rfl rfl) ?_
        refine TL.yld rfl rfl (yld_extract rfl rfl rfl) ?_
        refine TL.yld rfl rfl (yld_extract rfl rfl rfl) ?_
        refine TL.yld rfl rfl (yld_assign rfl rfl) ?_
        refine TL.yld rfl rfl (yld_assign rfl rfl) ?_
        refine TL.done ?_
        refine NX.seq ?_
        refine WC.seq ?_
        refine WC.seq ?_
        refine WC.region ?_
        refine TL.yld rfl rfl (yld_assign rfl rfl) ?_
        refine TL.done ?_
        refine NX.seq ?_
        refine WC.block ?_
        refine WC.loop (fun m61 a wl => ∃ (i58 : Int), Kn 177 [(3, v15), (4, .int .i64 r11.2.1), (5, .int .i64 r11.2.2.1), (6, .int .i64 r11.2.2.2.1), (7, .int .i64 r11.2.2.2.2), (8, v25), (12, .int .i64 r50.1), (13, .int .i64 r50.2), (14, .int .i64 i58)] a ∧ Ext w wl ∧ w52.heap.size ≤ wl.heap.size ∧ ownR C_Clock wl (w5.heap.size) (Iv 0 0) 75 r11.1 v15 ∧ ownR (cSl (cInt .i64)) wl (w13.heap.size) (SX (w13.heap.size) wl.heap.size v25) 42 r21.1 v25 ∧ F_laws_FnEdgePairs_L1 n r11 r21 r50 (fun i58 => (some ((((r50.2 == 0)) && (decide ((r21.1.length : Int) > 0)))))) m61 i58 = some r) n ?_ ?_
        · intro a hK; exact ⟨0, hK.weaken ⟨rfl, rfl, rfl, rfl, rfl, rfl, rfl, rfl, rfl, trivial⟩, he54, Nat.le_refl _, hs16, (ownR.wideN hs26 (by omega)), hF⟩
        · rintro m61 a w56 ⟨i58, hK, he57, hz62, hs59, hs60, hF⟩
          revert hK; revert a; refine (?_ : WC _ _ _ _ _ _)
          cases m61 with
          | zero => rw [F_laws_FnEdgePairs_L1_z] at hF; cases hF
          | succ m61 =>
            rw [F_laws_FnEdgePairs_L1_s] at hF
            refine WC.seq ?_
            refine WC.seq ?_
            refine WC.region ?_
            refine TL.yld rfl rfl (yld_move rfl rfl) ?_
            refine TL.yld rfl rfl (yld_move rfl rfl) ?_
            refine TL.yld rfl rfl (yld_len_own (c := (cSl (cInt .i64))) rfl Tryd.underlying38 rfl hs60) ?_
            refine TL.yld rfl rfl (yld_lss rfl rfl rfl) ?_
            refine TL.done ?_
            refine NX.seq ?_
            refine WC.cond rfl ?_ ?_
            · intro hc63
              replace hF := bif_t hc63 hF
              refine WC.skip' ?_
              refine NX.seq ?_
              refine WC.seq ?_
              refine WC.block ?_
              refine WC.seq ?_
              refine WC.seq ?_
              refine WC.quiet Tryd.hm (by kernel_rfl) ?_
              refine QL.yld rfl rfl (Yld.qui (yld_move rfl rfl)) ?_
              refine QL.yld rfl rfl (Yld.qui (yld_move rfl rfl)) ?_
              obtain ⟨x64, hy65, hF⟩ := bsome hF
              refine QL.ye rfl rfl (ye_index_own (c := (cSl (cInt .i64))) rfl Tryd.underlying38 cn_42 rfl rfl hs60 hy65) ?_
              rintro _ ⟨g66, us68, rfl, hg67, hr69, hcl70⟩
              have hr69r := hr69
              obtain ⟨v71, rfl, hs72⟩ := hr69
              have hs73 := slRep.mono hs72 (S' := Iv w13.heap.size w56.heap.size) (fun k h => ⟨h.1, h.2.1⟩) (fun _ _ => rfl)
              refine QL.yld rfl rfl (Yld.qui (yld_load1 0 rfl ag_42 rfl hcl70 rfl rfl)) ?_
              refine QL.yld rfl rfl (Yld.qui (ye_len (c := (cInt .i64)) rfl Tryd.underlying42 rfl hs73)) ?_
              refine QL.yld rfl rfl (Yld.qui (yld_neq rfl rfl rfl)) ?_
              refine QL.yld rfl rfl (Yld.qui (yld_move rfl rfl)) ?_
              obtain ⟨c74, hb75, hF⟩ := bsome hF
              refine QL.cut 8 [(3, v15), (4, .int .i64 r11.2.1), (5, .int .i64 r11.2.2.1), (6, .int .i64 r11.2.2.2.1), (7, .int .i64 r11.2.2.2.2), (8, v25), (12, .int .i64 r50.1), (13, .int .i64 r50.2), (14, .int .i64 i58), (86, .bool c74)] ?_ ?_
              · rcases Bool.eq_false_or_eq_true ((((x64.length : Int)) != 2)) with hg76 | hg76
                ·
                  rw [hg76] at hb75; simp only [cond_true, cond_false] at hb75
                  refine QL.gnu (j := 6) (t := 78) rfl rfl rfl hg76 rfl ?_
                  refine QL.gnu (j := 6) (t := 78) rfl rfl rfl hg76 rfl ?_
                  refine QL.gnu (j := 6) (t := 78) rfl rfl rfl hg76 rfl ?_
                  refine QL.gnu (j := 6) (t := 78) rfl rfl rfl hg76 rfl ?_
                  refine QL.gnu (j := 6) (t := 78) rfl rfl rfl hg76 rfl ?_
                  refine QL.gnu (j := 6) (t := 78) rfl rfl rfl hg76 rfl ?_
                  refine QL.gnu (j := 6) (t := 78) rfl rfl rfl hg76 rfl ?_
                  obtain rfl := Option.some.inj hb75
                  refine QL.yld rfl rfl (Yld.qui (yld_pick_t rfl rfl hg76 rfl)) ?_
                  exact QL.nil fun a h => h.weaken ⟨rfl, rfl, rfl, rfl, rfl, rfl, rfl, rfl, rfl, rfl, trivial⟩
                ·
                  rw [hg76] at hb75; simp only [cond_true, cond_false] at hb75
                  replace hF := hb75
                  refine QL.gy (j := 6) (t := 78) rfl rfl rfl hg76 rfl (Yld.qui (yld_move rfl rfl)) ?_
                  refine QL.gy (j := 6) (t := 78) rfl rfl rfl hg76 rfl (Yld.qui (yld_move rfl rfl)) ?_
                  obtain ⟨x77, hy78, hF⟩ := bsome hF
                  refine QL.yeg (j := 6) (t := 78) rfl rfl rfl hg76 rfl (ye_index_own (c := (cSl (cInt .i64))) rfl Tryd.underlying38 cn_42 rfl rfl hs60 hy78) ?_
                  rintro _ ⟨g79, us81, rfl, hg80, hr82, hcl83⟩
                  have hr82r := hr82
                  obtain ⟨v84, rfl, hs85⟩ := hr82
                  have hs86 := slRep.mono hs85 (S' := Iv w13.heap.size w56.heap.size) (fun k h => ⟨h.1, h.2.1⟩) (fun _ _ => rfl)
                  refine QL.gy (j := 6) (t := 78) rfl rfl rfl hg76 rfl (Yld.qui (yld_load1 0 rfl ag_42 rfl hcl83 rfl rfl)) ?_
                  obtain ⟨x87, hy88, hF⟩ := bsome hF
                  refine QL.yeg (j := 6) (t := 78) rfl rfl rfl hg76 rfl (ye_index (c := (cInt .i64)) rfl Tryd.underlying42 cn_2 rfl rfl hs86 hy88) ?_
                  rintro _ ⟨b89, o90, us91, rfl, hib94, hr92, hcl93⟩
                  have hib94 : w13.heap.size ≤ b89 ∧ b89 < w56.heap.size := ⟨hib94.1, by have := hib94.2; omega⟩
                  obtain rfl := hr92
                  refine QL.gy (j := 6) (t := 78) rfl rfl rfl hg76 rfl (Yld.qui (yld_load1 0 rfl ag_2 rfl hcl93 rfl rfl)) ?_
                  refine QL.gy (j := 6) (t := 78) rfl rfl rfl hg76 rfl (Yld.qui (yld_lss rfl rfl rfl)) ?_
                  obtain rfl := Option.some.inj hF
                  refine QL.yld rfl rfl (Yld.qui (yld_pick_f rfl rfl hg76 rfl)) ?_
                  exact QL.nil fun a h => h.weaken ⟨rfl, rfl, rfl, rfl, rfl, rfl, rfl, rfl, rfl, rfl, trivial⟩
              refine QL.yld rfl rfl (Yld.qui (yld_move rfl rfl)) ?_
              obtain ⟨c95, hb96, hF⟩ := bsome hF
              refine QL.cut 9 [(3, v15), (4, .int .i64 r11.2.1), (5, .int .i64 r11.2.2.1), (6, .int .i64 r11.2.2.2.1), (7, .int .i64 r11.2.2.2.2), (8, v25), (12, .int .i64 r50.1), (13, .int .i64 r50.2), (14, .int .i64 i58), (96, .bool c95)] ?_ ?_
              · rcases Bool.eq_false_or_eq_true c74 with hg97 | hg97
                ·
                  rw [hg97] at hb96; simp only [cond_true, cond_false] at hb96
                  refine QL.gnu (j := 15) (t := 87) rfl rfl rfl hg97 rfl ?_
                  refine QL.gnu (j := 15) (t := 87) rfl rfl rfl hg97 rfl ?_
                  refine QL.gnu (j := 15) (t := 87) rfl rfl rfl hg97 rfl ?_
                  refine QL.gnu (j := 15) (t := 87) rfl rfl rfl hg97 rfl ?_
                  refine QL.gnu (j := 15) (t := 87) rfl rfl rfl hg97 rfl ?_
                  refine QL.gnu (j := 15) (t := 87) rfl rfl rfl hg97 rfl ?_
                  refine QL.gnu (j := 15) (t := 87) rfl rfl rfl hg97 rfl ?_
                  refine QL.gnu (j := 15) (t := 87) rfl rfl rfl hg97 rfl ?_
                  obtain rfl := Option.some.inj hb96
                  refine QL.yld rfl rfl (Yld.qui (yld_pick_t rfl rfl hg97 rfl)) ?_
                  exact QL.nil fun a h => h.weaken ⟨rfl, rfl, rfl, rfl, rfl, rfl, rfl, rfl, rfl, rfl, trivial⟩
                ·
                  rw [hg97] at hb96; simp only [cond_true, cond_false] at hb96
                  replace hF := hb96
                  refine QL.gy (j := 15) (t := 87) rfl rfl rfl hg97 rfl (Yld.qui (yld_move rfl rfl)) ?_
                  refine QL.gy (j := 15) (t := 87) rfl rfl rfl hg97 rfl (Yld.qui (yld_move rfl rfl)) ?_
                  obtain ⟨x98, hy99, hF⟩ := bsome hF
                  refine QL.yeg (j := 15) (t := 87) rfl rfl rfl hg97 rfl (ye_index_own (c := (cSl (cInt .i64))) rfl Tryd.underlying38 cn_42 rfl rfl hs60 hy99) ?_
                  rintro _ ⟨g100, us102, rfl, hg101, hr103, hcl104⟩
                  have hr103r := hr103
                  obtain ⟨v105, rfl, hs106⟩ := hr103
                  have hs107 := slRep.mono hs106 (S' := Iv w13.heap.size w56.heap.size) (fun k h => ⟨h.1, h.2.1⟩) (fun _ _ => rfl)
                  refine QL.gy (j := 15) (t := 87) rfl rfl rfl hg97 rfl (Yld.qui (yld_load1 0 rfl ag_42 rfl hcl104 rfl rfl)) ?_
                  obtain ⟨x108, hy109, hF⟩ := bsome hF
                  refine QL.yeg (j := 15) (t := 87) rfl rfl rfl hg97 rfl (ye_index (c := (cInt .i64)) rfl Tryd.underlying42 cn_2 rfl rfl hs107 hy109) ?_
                  rintro _ ⟨b110, o111, us112, rfl, hib115, hr113, hcl114⟩
                  have hib115 : w13.heap.size ≤ b110 ∧ b110 < w56.heap.size := ⟨hib115.1, by have := hib115.2; omega⟩
                  obtain rfl := hr113
                  refine QL.gy (j := 15) (t := 87) rfl rfl rfl hg97 rfl (Yld.qui (yld_load1 0 rfl ag_2 rfl hcl114 rfl rfl)) ?_
                  refine QL.gy (j := 15) (t := 87) rfl rfl rfl hg97 rfl (Yld.qui (yld_move rfl rfl)) ?_
                  refine QL.gy (j := 15) (t := 87) rfl rfl rfl hg97 rfl (Yld.qui (yld_geq rfl rfl rfl)) ?_
                  obtain rfl := Option.some.inj hF
                  refine QL.yld rfl rfl (Yld.qui (yld_pick_f rfl rfl hg97 rfl)) ?_
                  exact QL.nil fun a h => h.weaken ⟨rfl, rfl, rfl, rfl, rfl, rfl, rfl, rfl, rfl, rfl, trivial⟩
              refine QL.yld rfl rfl (Yld.qui (yld_move rfl rfl)) ?_
              obtain ⟨c116, hb117, hF⟩ := bsome hF
              refine QL.cut 19 [(3, v15), (4, .int .i64 r11.2.1), (5, .int .i64 r11.2.2.1), (6, .int .i64 r11.2.2.2.1), (7, .int .i64 r11.2.2.2.2), (8, v25), (12, .int .i64 r50.1), (13, .int .i64 r50.2), (14, .int .i64 i58), (116, .bool c116)] ?_ ?_
              · rcases Bool.eq_false_or_eq_true c95 with hg118 | hg118
                ·
                  rw [hg118] at hb117; simp only [cond_true, cond_false] at hb117
                  refine QL.gnu (j := 25) (t := 97) rfl rfl rfl hg118 rfl ?_
                  refine QL.gnu (j := 25) (t := 97) rfl rfl rfl hg118 rfl ?_
                  refine QL.gnu (j := 25) (t := 97) rfl rfl rfl hg118 rfl ?_
                  refine QL.gu (j := 28) (t := 100) rfl rfl rfl rfl ?_
                  refine QL.gu (j := 28) (t := 100) rfl rfl rfl rfl ?_
                  refine QL.gu (j := 28) (t := 100) rfl rfl rfl rfl ?_
                  refine QL.gu (j := 28) (t := 100) rfl rfl rfl rfl ?_
                  refine QL.gu (j := 28) (t := 100) rfl rfl rfl rfl ?_
                  refine QL.gu (j := 28) (t := 100) rfl rfl rfl rfl ?_
                  refine QL.gu (j := 28) (t := 100) rfl rfl rfl rfl ?_
                  refine QL.gu (j := 28) (t := 100) rfl rfl rfl rfl ?_
                  refine QL.gu (j := 28) (t := 100) rfl rfl rfl rfl ?_
                  refine QL.gu (j := 28) (t := 100) rfl rfl rfl rfl ?_
                  refine QL.gu (j := 28) (t := 100) rfl rfl rfl rfl ?_
                  refine QL.gu (j := 28) (t := 100) rfl rfl rfl rfl ?_
                  refine QL.gu (j := 28) (t := 100) rfl rfl rfl rfl ?_
                  refine QL.gu (j := 28) (t := 100) rfl rfl rfl rfl ?_
                  refine QL.gnu (j := 25) (t := 97) rfl rfl rfl hg118 rfl ?_
                  obtain rfl := Option.some.inj hb117
                  refine QL.yld rfl rfl (Yld.qui (yld_pick_t rfl rfl hg118 rfl)) ?_
                  exact QL.nil fun a h => h.weaken ⟨rfl, rfl, rfl, rfl, rfl, rfl, rfl, rfl, rfl, rfl, trivial⟩
                ·
                  rw [hg118] at hb117; simp only [cond_true, cond_false] at hb117
                  replace hF := hb117
                  refine QL.gy (j := 25) (t := 97) rfl rfl rfl hg118 rfl (Yld.qui (yld_move rfl rfl)) ?_
                  refine QL.gy (j := 25) (t := 97) rfl rfl rfl hg118 rfl (Yld.qui (yld_gtr rfl rfl rfl)) ?_
                  refine QL.gy (j := 25) (t := 97) rfl rfl rfl hg118 rfl (Yld.qui (yld_move rfl rfl)) ?_
                  obtain ⟨c119, hb120, hF⟩ := bsome hF
                  refine QL.cut 15 [(3, v15), (4, .int .i64 r11.2.1), (5, .int .i64 r11.2.2.1), (6, .int .i64 r11.2.2.2.1), (7, .int .i64 r11.2.2.2.2), (8, v25), (12, .int .i64 r50.1), (13, .int .i64 r50.2), (14, .int .i64 i58), (97, .bool c95), (98, .int .i64 i58), (99, .bool (decide (i58 > 0))), (100, .bool (decide (i58 > 0))), (115, .bool c119)] ?_ ?_
                  · rcases Bool.eq_false_or_eq_true (decide (i58 > 0)) with hg121 | hg121
                    ·
                      rw [hg121] at hb120; simp only [cond_true, cond_false] at hb120
                      replace hF := hb120
                      refine QL.gy (j := 28) (t := 100) rfl rfl rfl hg121 rfl (Yld.qui (yld_move rfl rfl)) ?_
                      refine QL.gy (j := 28) (t := 100) rfl rfl rfl hg121 rfl (Yld.qui (yld_move rfl rfl)) ?_
                      refine QL.gy (j := 28) (t := 100) rfl rfl rfl hg121 rfl (Yld.qui (yld_sub rfl rfl rfl)) ?_
                      obtain ⟨x122, hy123, hF⟩ := bsome hF
                      refine QL.yeg (j := 28) (t := 100) rfl rfl rfl hg121 rfl (ye_index_own (c := (cSl (cInt .i64))) rfl Tryd.underlying38 cn_42 rfl rfl hs60 hy123) ?_
                      rintro _ ⟨g124, us126, rfl, hg125, hr127, hcl128⟩
                      have hr127r := hr127
                      obtain ⟨v129, rfl, hs130⟩ := hr127
                      have hs131 := slRep.mono hs130 (S' := Iv w13.heap.size w56.heap.size) (fun k h => ⟨h.1, h.2.1⟩) (fun _ _ => rfl)
                      refine QL.gy (j := 28) (t := 100) rfl rfl rfl hg121 rfl (Yld.qui (yld_load1 0 rfl ag_42 rfl hcl128 rfl rfl)) ?_
                      obtain ⟨x132, hy133, hF⟩ := bsome hF
                      refine QL.yeg (j := 28) (t := 100) rfl rfl rfl hg121 rfl (ye_index (c := (cInt .i64)) rfl Tryd.underlying42 cn_2 rfl rfl hs131 hy133) ?_
                      rintro _ ⟨b134, o135, us136, rfl, hib139, hr137, hcl138⟩
                      have hib139 : w13.heap.size ≤ b134 ∧ b134 < w56.heap.size := ⟨hib139.1, by have := hib139.2; omega⟩
                      obtain rfl := hr137
                      refine QL.gy (j := 28) (t := 100) rfl rfl rfl hg121 rfl (Yld.qui (yld_load1 0 rfl ag_2 rfl hcl138 rfl rfl)) ?_
                      refine QL.gy (j := 28) (t := 100) rfl rfl rfl hg121 rfl (Yld.qui (yld_move rfl rfl)) ?_
                      refine QL.gy (j := 28) (t := 100) rfl rfl rfl hg121 rfl (Yld.qui (yld_move rfl rfl)) ?_
                      obtain ⟨x140, hy141, hF⟩ := bsome hF
                      refine QL.yeg (j := 28) (t := 100) rfl rfl rfl hg121 rfl (ye_index_own (c := (cSl (cInt .i64))) rfl Tryd.underlying38 cn_42 rfl rfl hs60 hy141) ?_
                      rintro _ ⟨g142, us144, rfl, hg143, hr145, hcl146⟩
                      have hr145r := hr145
                      obtain ⟨v147, rfl, hs148⟩ := hr145
                      have hs149 := slRep.mono hs148 (S' := Iv w13.heap.size w56.heap.size) (fun k h => ⟨h.1, h.2.1⟩) (fun _ _ => rfl)
                      refine QL.gy (j := 28) (t := 100) rfl rfl rfl hg121 rfl (Yld.qui (yld_load1 0 rfl ag_42 rfl hcl146 rfl rfl)) ?_
                      obtain ⟨x150, hy151, hF⟩ := bsome hF
                      refine QL.yeg (j := 28) (t := 100) rfl rfl rfl hg121 rfl (ye_index (c := (cInt .i64)) rfl Tryd.underlying42 cn_2 rfl rfl hs149 hy151) ?_
                      rintro _ ⟨b152, o153, us154, rfl, hib157, hr155, hcl156⟩
                      have hib157 : w13.heap.size ≤ b152 ∧ b152 < w56.heap.size := ⟨hib157.1, by have := hib157.2; omega⟩
                      obtain rfl := hr155
                      refine QL.gy (j := 28) (t := 100) rfl rfl rfl hg121 rfl (Yld.qui (yld_load1 0 rfl ag_2 rfl hcl156 rfl rfl)) ?_
                      refine QL.gy (j := 28) (t := 100) rfl rfl rfl hg121 rfl (Yld.qui (yld_geq rfl rfl rfl)) ?_
                      obtain rfl := Option.some.inj hF
                      refine QL.gy (j := 25) (t := 97) rfl rfl rfl hg118 rfl (Yld.qui (yld_pick_t rfl rfl hg121 rfl)) ?_
                      exact QL.nil fun a h => h.weaken ⟨rfl, rfl, rfl, rfl, rfl, rfl, rfl, rfl, rfl, rfl, rfl, rfl, rfl, rfl, trivial⟩
                    ·
                      rw [hg121] at hb120; simp only [cond_true, cond_false] at hb120
                      refine QL.gnu (j := 28) (t := 100) rfl rfl rfl hg121 rfl ?_
                      refine QL.gnu (j := 28) (t := 100) rfl rfl rfl hg121 rfl ?_
                      refine QL.gnu (j := 28) (t := 100) rfl rfl rfl hg121 rfl ?_
                      refine QL.gnu (j := 28) (t := 100) rfl rfl rfl hg121 rfl ?_
                      refine QL.gnu (j := 28) (t := 100) rfl rfl rfl hg121 rfl ?_
                      refine QL.gnu (j := 28) (t := 100) rfl rfl rfl hg121 rfl ?_
                      refine QL.gnu (j := 28) (t := 100) rfl rfl rfl hg121 rfl ?_
                      refine QL.gnu (j := 28) (t := 100) rfl rfl rfl hg121 rfl ?_
                      refine QL.gnu (j := 28) (t := 100) rfl rfl rfl hg121 rfl ?_
                      refine QL.gnu (j := 28) (t := 100) rfl rfl rfl hg121 rfl ?_
                      refine QL.gnu (j := 28) (t := 100) rfl rfl rfl hg121 rfl ?_
                      refine QL.gnu (j := 28) (t := 100) rfl rfl rfl hg121 rfl ?_
                      refine QL.gnu (j := 28) (t := 100) rfl rfl rfl hg121 rfl ?_
                      refine QL.gnu (j := 28) (t := 100) rfl rfl rfl hg121 rfl ?_
                      obtain rfl := Option.some.inj hb120
                      refine QL.gy (j := 25) (t := 97) rfl rfl rfl hg118 rfl (Yld.qui (yld_pick_f rfl rfl hg121 rfl)) ?_
                      exact QL.nil fun a h => h.weaken ⟨rfl, rfl, rfl, rfl, rfl, rfl, rfl, rfl, rfl, rfl, rfl, rfl, rfl, rfl, trivial⟩
                  obtain rfl := Option.some.inj hF
                  refine QL.yld rfl rfl (Yld.qui (yld_pick_f rfl rfl hg118 rfl)) ?_
                  exact QL.nil fun a h => h.weaken ⟨rfl, rfl, rfl, rfl, rfl, rfl, rfl, rfl, rfl, rfl, trivial⟩
              refine QL.done fun w158 hx159 => ?_
              have he160 : Ext w w158 := Ext.trans he57 hx159
              have hs59 := ownR.ext hs59 hx159
              have hs60 := ownR.extN hs60 hx159 (by omega)
              have hz161 := (hx159).size
              refine NX.seq ?_
              refine WC.cond rfl ?_ ?_
              · intro hc162
                replace hF := bif_t hc162 hF
                refine WC.seq ?_
                refine WC.region ?_
                refine TL.yld rfl rfl (yld_assign rfl rfl) ?_
                refine TL.done ?_
                refine NX.seq ?_
                refine WC.ret' ?_
                refine NX.then_r ?_
                refine NX.blk_r ?_
                refine NX.then_r ?_
                refine NX.then_r ?_
                refine NX.blk_r ?_
                refine NX.then_r ?_
                obtain rfl := Option.some.inj hF
                exact NX.end (rs := [.tmp 2]) (vs := [.bool false]) rfl ⟨rfl, trivial⟩ ⟨_, rfl, rfl, he160⟩
              · intro hc163
                replace hF := bif_f hc163 hF
                refine WC.skip' ?_
                refine NX.seq ?_
                refine WC.seq ?_
                refine WC.region ?_
                refine TL.yld rfl rfl (yld_move rfl rfl) ?_
                refine TL.yld rfl rfl (yld_move rfl rfl) ?_
                refine TL.yld rfl rfl (yld_move rfl rfl) ?_
                refine TL.yld rfl rfl (yld_move rfl rfl) ?_
                refine TL.yld rfl rfl (yld_move rfl rfl) ?_
                obtain ⟨x164, hy165, hF⟩ := bsome hF
                refine TL.ye rfl rfl (ye_index_own (c := (cSl (cInt .i64))) rfl Tryd.underlying38 cn_42 rfl rfl hs60 hy165) ?_
                rintro _ ⟨g166, us168, rfl, hg167, hr169, hcl170⟩
                have hr169r := hr169
                obtain ⟨v171, rfl, hs172⟩ := hr169
                have hs173 := slRep.mono hs172 (S' := Iv w13.heap.size w56.heap.size) (fun k h => ⟨h.1, h.2.1⟩) (fun _ _ => rfl)
                refine TL.yld rfl rfl (yld_load1 0 rfl ag_42 rfl hcl170 rfl rfl) ?_
                obtain ⟨x174, hy175, hF⟩ := bsome hF
                refine TL.ye rfl rfl (ye_index (c := (cInt .i64)) rfl Tryd.underlying42 cn_2 rfl rfl hs173 hy175) ?_
                rintro _ ⟨b176, o177, us178, rfl, hib181, hr179, hcl180⟩
                have hib181 : w13.heap.size ≤ b176 ∧ b176 < w56.heap.size := ⟨hib181.1, by have := hib181.2; omega⟩
                obtain rfl := hr179
                refine TL.yld rfl rfl (yld_load1 0 rfl ag_2 rfl hcl180 rfl rfl) ?_
                obtain ⟨r182, hr183, hF⟩ := bsome hF
                refine TL.eff rfl rfl (eff_call rfl gf_28 rfl (W_impl_NextEdge hr183 (ownR.slf hs59 (Nat.zero_le _) (Nat.le_refl _)))) ?_
                rintro _ w184 ⟨rfl, hx185⟩
                have he186 : Ext w w184 := Ext.trans he160 hx185
                have hs173 := slRep.old hs173 hx185 (by omega)
                have hs59 := ownR.ext hs59 hx185
                have hs60 := ownR.extN hs60 hx185 (by omega)
                have hz187 := (hx185).size
                refine TL.yld rfl rfl (yld_move rfl rfl) ?_
                refine TL.yld rfl rfl (yld_extract rfl rfl rfl) ?_
                refine TL.yld rfl rfl (yld_extract rfl rfl rfl) ?_
                refine TL.yld rfl rfl (yld_assign rfl rfl) ?_
                refine TL.yld rfl rfl (yld_assign rfl rfl) ?_
                refine TL.done ?_
                refine NX.seq ?_
                refine WC.seq ?_
                refine WC.region ?_
                refine TL.yld rfl rfl (yld_move rfl rfl) ?_
                refine TL.yld rfl rfl (yld_move rfl rfl) ?_
                refine TL.yld rfl rfl (yld_move rfl rfl) ?_
                refine TL.yld rfl rfl (yld_move rfl rfl) ?_
                refine TL.yld rfl rfl (yld_move rfl rfl) ?_
                obtain ⟨x188, hy189, hF⟩ := bsome hF
                refine TL.ye rfl rfl (ye_index_own (c := (cSl (cInt .i64))) rfl Tryd.underlying38 cn_42 rfl rfl hs60 hy189) ?_
                rintro _ ⟨g190, us192, rfl, hg191, hr193, hcl194⟩
                have hr193r := hr193
                obtain ⟨v195, rfl, hs196⟩ := hr193
                have hs197 := slRep.mono hs196 (S' := Iv w13.heap.size w56.heap.size) (fun k h => ⟨h.1, h.2.1⟩) (fun _ _ => rfl)
                refine TL.yld rfl rfl (yld_load1 0 rfl ag_42 rfl hcl194 rfl rfl) ?_
                obtain ⟨x198, hy199, hF⟩ := bsome hF
                refine TL.ye rfl rfl (ye_index (c := (cInt .i64)) rfl Tryd.underlying42 cn_2 rfl rfl hs197 hy199) ?_
                rintro _ ⟨b200, o201, us202, rfl, hib205, hr203, hcl204⟩
                have hib205 : w13.heap.size ≤ b200 ∧ b200 < w56.heap.size := ⟨hib205.1, by have := hib205.2; omega⟩
                obtain rfl := hr203
                refine TL.yld rfl rfl (yld_load1 0 rfl ag_2 rfl hcl204 rfl rfl) ?_
                refine TL.yld rfl rfl (yld_sub rfl rfl rfl) ?_
                obtain ⟨r206, hr207, hF⟩ := bsome hF
                refine TL.eff rfl rfl (eff_call rfl gf_28 rfl (W_impl_NextEdge hr207 (ownR.slf hs59 (Nat.zero_le _) (Nat.le_refl _)))) ?_
                rintro _ w208 ⟨rfl, hx209⟩
                have he210 : Ext w w208 := Ext.trans he186 hx209
                have hs173 := slRep.old hs173 hx209 (by omega)
                have hs197 := slRep.old hs197 hx209 (by omega)
                have hs59 := ownR.ext hs59 hx209
                have hs60 := ownR.extN hs60 hx209 (by omega)
                have hz211 := (hx209).size
                refine TL.yld rfl rfl (yld_move rfl rfl) ?_
                refine TL.yld rfl rfl (yld_extract rfl rfl rfl) ?_
                refine TL.yld rfl rfl (yld_extract rfl rfl rfl) ?_
                refine TL.yld rfl rfl (yld_assign rfl rfl) ?_
                refine TL.yld rfl rfl (yld_assign rfl rfl) ?_
                refine TL.done ?_
                refine NX.seq ?_
                refine WC.seq ?_
                refine WC.region ?_
                refine TL.yld rfl rfl (yld_move rfl rfl) ?_
                refine TL.yld rfl rfl (yld_neq rfl rfl rfl) ?_
                refine TL.yld rfl rfl (yld_move rfl rfl) ?_
                refine TL.cut 3 [(3, v15), (4, .int .i64 r11.2.1), (5, .int .i64 r11.2.2.1), (6, .int .i64 r11.2.2.2.1), (7, .int .i64 r11.2.2.2.2), (8, v25), (12, .int .i64 r50.1), (13, .int .i64 r50.2), (14, .int .i64 i58), (15, .int .i64 r182.1), (17, .int .i64 r206.1), (149, .bool ((((r182.2 != 0)) || ((r206.2 != 0)))))] (fun w' => Ext w208 w') ?_ ?_
                · rcases Bool.eq_false_or_eq_true ((r182.2 != 0)) with hg212 | hg212
                  ·
                    refine TL.gnu (j := 2) (t := 146) rfl rfl rfl hg212 rfl ?_
                    refine TL.gnu (j := 2) (t := 146) rfl rfl rfl hg212 rfl ?_
                    refine TL.yld rfl rfl (yld_or_t (b2 := (r206.2 != 0)) rfl rfl hg212 rfl) ?_
                    exact TL.nil fun a h => ⟨h.weaken ⟨rfl, rfl, rfl, rfl, rfl, rfl, rfl, rfl, rfl, rfl, rfl, rfl, trivial⟩, Ext.refl _⟩
                  ·
                    refine TL.gy (j := 2) (t := 146) rfl rfl rfl hg212 rfl (yld_move rfl rfl) ?_
                    refine TL.gy (j := 2) (t := 146) rfl rfl rfl hg212 rfl (yld_neq rfl rfl rfl) ?_
                    refine TL.yld rfl rfl (yld_or_f rfl rfl hg212 rfl) ?_
                    exact TL.nil fun a h => ⟨h.weaken ⟨rfl, rfl, rfl, rfl, rfl, rfl, rfl, rfl, rfl, rfl, rfl, rfl, trivial⟩, Ext.refl _⟩
                intro w213 hx214
                have he215 : Ext w w213 := Ext.trans he210 hx214
                have hs59 := ownR.ext hs59 hx214
                have hs60 := ownR.extN hs60 hx214 (by omega)
                have hz216 := (hx214).size
                refine TL.yld rfl rfl (yld_move rfl rfl) ?_
                obtain ⟨c217, hb218, hF⟩ := bsome hF
                refine TL.cut 9 [(3, v15), (4, .int .i64 r11.2.1), (5, .int .i64 r11.2.2.1), (6, .int .i64 r11.2.2.2.1), (7, .int .i64 r11.2.2.2.2), (8, v25), (12, .int .i64 r50.1), (13, .int .i64 r50.2), (14, .int .i64 i58), (17, .int .i64 r206.1), (159, .bool c217)] (fun w' => Ext w213 w') ?_ ?_
                · rcases Bool.eq_false_or_eq_true ((((r182.2 != 0)) || ((r206.2 != 0)))) with hg219 | hg219
                  ·
                    rw [hg219] at hb218; simp only [cond_true, cond_false] at hb218
                    refine TL.gnu (j := 6) (t := 150) rfl rfl rfl hg219 rfl ?_
                    refine TL.gnu (j := 6) (t := 150) rfl rfl rfl hg219 rfl ?_
                    refine TL.gnu (j := 6) (t := 150) rfl rfl rfl hg219 rfl ?_
                    refine TL.gnu (j := 6) (t := 150) rfl rfl rfl hg219 rfl ?_
                    refine TL.gnu (j := 6) (t := 150) rfl rfl rfl hg219 rfl ?_
                    refine TL.gnu (j := 6) (t := 150) rfl rfl rfl hg219 rfl ?_
                    refine TL.gnu (j := 6) (t := 150) rfl rfl rfl hg219 rfl ?_
                    refine TL.gnu (j := 6) (t := 150) rfl rfl rfl hg219 rfl ?_
                    obtain rfl := Option.some.inj hb218
                    refine TL.yld rfl rfl (yld_pick_t rfl rfl hg219 rfl) ?_
                    exact TL.nil fun a h => ⟨h.weaken ⟨rfl, rfl, rfl, rfl, rfl, rfl, rfl, rfl, rfl, rfl, rfl, trivial⟩, Ext.refl _⟩
                  ·
                    rw [hg219] at hb218; simp only [cond_true, cond_false] at hb218
                    replace hF := hb218
                    refine TL.gy (j := 6) (t := 150) rfl rfl rfl hg219 rfl (yld_move rfl rfl) ?_
                    refine TL.gy (j := 6) (t := 150) rfl rfl rfl hg219 rfl (yld_move rfl rfl) ?_
                    refine TL.gy (j := 6) (t := 150) rfl rfl rfl hg219 rfl (yld_move rfl rfl) ?_
                    obtain ⟨x220, hy221, hF⟩ := bsome hF
                    refine TL.yeg (j := 6) (t := 150) rfl rfl rfl hg219 rfl (ye_index_own (c := (cSl (cInt .i64))) rfl Tryd.underlying38 cn_42 rfl rfl hs60 hy221) ?_
                    rintro _ ⟨g222, us224, rfl, hg223, hr225, hcl226⟩
                    have hr225r := hr225
                    obtain ⟨v227, rfl, hs228⟩ := hr225
                    have hs229 := slRep.mono hs228 (S' := Iv w13.heap.size w56.heap.size) (fun k h => ⟨h.1, h.2.1⟩) (fun _ _ => rfl)
                    refine TL.gy (j := 6) (t := 150) rfl rfl rfl hg219 rfl (yld_load1 0 rfl ag_42 rfl hcl226 rfl rfl) ?_
                    obtain ⟨x230, hy231, hF⟩ := bsome hF
                    refine TL.yeg (j := 6) (t := 150) rfl rfl rfl hg219 rfl (ye_index (c := (cInt .i64)) rfl Tryd.underlying42 cn_2 rfl rfl hs229 hy231) ?_
                    rintro _ ⟨b232, o233, us234, rfl, hib237, hr235, hcl236⟩
                    have hib237 : w13.heap.size ≤ b232 ∧ b232 < w56.heap.size := ⟨hib237.1, by have := hib237.2; omega⟩
                    obtain rfl := hr235
                    refine TL.gy (j := 6) (t := 150) rfl rfl rfl hg219 rfl (yld_load1 0 rfl ag_2 rfl hcl236 rfl rfl) ?_
                    refine TL.gy (j := 6) (t := 150) rfl rfl rfl hg219 rfl (yld_neq rfl rfl rfl) ?_
                    obtain rfl := Option.some.inj hF
                    refine TL.yld rfl rfl (yld_pick_f rfl rfl hg219 rfl) ?_
                    exact TL.nil fun a h => ⟨h.weaken ⟨rfl, rfl, rfl, rfl, rfl, rfl, rfl, rfl, rfl, rfl, rfl, trivial⟩, Ext.refl _⟩
                intro w238 hx239
                have he240 : Ext w w238 := Ext.trans he215 hx239
                have hs59 := ownR.ext hs59 hx239
                have hs60 := ownR.extN hs60 hx239 (by omega)
                have hz241 := (hx239).size
                refine TL.yld rfl rfl (yld_move rfl rfl) ?_
                obtain ⟨c242, hb243, hF⟩ := bsome hF
                refine TL.cut 9 [(3, v15), (4, .int .i64 r11.2.1), (5, .int .i64 r11.2.2.1), (6, .int .i64 r11.2.2.2.1), (7, .int .i64 r11.2.2.2.2), (8, v25), (12, .int .i64 r50.1), (13, .int .i64 r50.2), (14, .int .i64 i58), (169, .bool c242)] (fun w' => Ext w238 w') ?_ ?_
                · rcases Bool.eq_false_or_eq_true c217 with hg244 | hg244
                  ·
                    rw [hg244] at hb243; simp only [cond_true, cond_false] at hb243
                    refine TL.gnu (j := 16) (t := 160) rfl rfl rfl hg244 rfl ?_
                    refine TL.gnu (j := 16) (t := 160) rfl rfl rfl hg244 rfl ?_
                    refine TL.gnu (j := 16) (t := 160) rfl rfl rfl hg244 rfl ?_
                    refine TL.gnu (j := 16) (t := 160) rfl rfl rfl hg244 rfl ?_
                    refine TL.gnu (j := 16) (t := 160) rfl rfl rfl hg244 rfl ?_
                    refine TL.gnu (j := 16) (t := 160) rfl rfl rfl hg244 rfl ?_
                    refine TL.gnu (j := 16) (t := 160) rfl rfl rfl hg244 rfl ?_
                    refine TL.gnu (j := 16) (t := 160) rfl rfl rfl hg244 rfl ?_
                    obtain rfl := Option.some.inj hb243
                    refine TL.yld rfl rfl (yld_pick_t rfl rfl hg244 rfl) ?_
                    exact TL.nil fun a h => ⟨h.weaken ⟨rfl, rfl, rfl, rfl, rfl, rfl, rfl, rfl, rfl, rfl, trivial⟩, Ext.refl _⟩
                  ·
                    rw [hg244] at hb243; simp only [cond_true, cond_false] at hb243
                    replace hF := hb243
                    refine TL.gy (j := 16) (t := 160) rfl rfl rfl hg244 rfl (yld_move rfl rfl) ?_
                    refine TL.gy (j := 16) (t := 160) rfl rfl rfl hg244 rfl (yld_move rfl rfl) ?_
                    refine TL.gy (j := 16) (t := 160) rfl rfl rfl hg244 rfl (yld_move rfl rfl) ?_
                    obtain ⟨x245, hy246, hF⟩ := bsome hF
                    refine TL.yeg (j := 16) (t := 160) rfl rfl rfl hg244 rfl (ye_index_own (c := (cSl (cInt .i64))) rfl Tryd.underlying38 cn_42 rfl rfl hs60 hy246) ?_
                    rintro _ ⟨g247, us249, rfl, hg248, hr250, hcl251⟩
                    have hr250r := hr250
                    obtain ⟨v252, rfl, hs253⟩ := hr250
                    have hs254 := slRep.mono hs253 (S' := Iv w13.heap.size w56.heap.size) (fun k h => ⟨h.1, h.2.1⟩) (fun _ _ => rfl)
                    refine TL.gy (j := 16) (t := 160) rfl rfl rfl hg244 rfl (yld_load1 0 rfl ag_42 rfl hcl251 rfl rfl) ?_
                    obtain ⟨x255, hy256, hF⟩ := bsome hF
                    refine TL.yeg (j := 16) (t := 160) rfl rfl rfl hg244 rfl (ye_index (c := (cInt .i64)) rfl Tryd.underlying42 cn_2 rfl rfl hs254 hy256) ?_
                    rintro _ ⟨b257, o258, us259, rfl, hib262, hr260, hcl261⟩
                    have hib262 : w13.heap.size ≤ b257 ∧ b257 < w56.heap.size := ⟨hib262.1, by have := hib262.2; omega⟩
                    obtain rfl := hr260
                    refine TL.gy (j := 16) (t := 160) rfl rfl rfl hg244 rfl (yld_load1 0 rfl ag_2 rfl hcl261 rfl rfl) ?_
                    refine TL.gy (j := 16) (t := 160) rfl rfl rfl hg244 rfl (yld_neq rfl rfl rfl) ?_
                    obtain rfl := Option.some.inj hF
                    refine TL.yld rfl rfl (yld_pick_f rfl rfl hg244 rfl) ?_
                    exact TL.nil fun a h => ⟨h.weaken ⟨rfl, rfl, rfl, rfl, rfl, rfl, rfl, rfl, rfl, rfl, trivial⟩, Ext.refl _⟩
                intro w263 hx264
                have he265 : Ext w w263 := Ext.trans he240 hx264
                have hs59 := ownR.ext hs59 hx264
                have hs60 := ownR.extN hs60 hx264 (by omega)
                have hz266 := (hx264).size
                refine TL.done ?_
                refine NX.seq ?_
                refine WC.cond rfl ?_ ?_
                · intro hc267
                  replace hF := bif_t hc267 hF
                  refine WC.seq ?_
                  refine WC.region ?_
                  refine TL.yld rfl rfl (yld_assign rfl rfl) ?_
                  refine TL.done ?_
                  refine NX.seq ?_
                  refine WC.ret' ?_
                  refine NX.blk_r ?_
                  refine NX.then_r ?_
                  refine NX.then_r ?_
                  refine NX.blk_r ?_
                  refine NX.then_r ?_
                  obtain rfl := Option.some.inj hF
                  exact NX.end (rs := [.tmp 2]) (vs := [.bool false]) rfl ⟨rfl, trivial⟩ ⟨_, rfl, rfl, he265⟩
                · intro hc268
                  replace hF := bif_f hc268 hF
                  refine WC.skip' ?_
                  refine NX.blk_n ?_
                  refine NX.seq ?_
                  refine WC.region ?_
                  refine TL.yld rfl rfl (yld_move rfl rfl) ?_
                  refine TL.yld rfl rfl (yld_add rfl rfl rfl) ?_
                  refine TL.yld rfl rfl (yld_assign rfl rfl) ?_
                  refine TL.done ?_
                  refine NX.then_n ?_
                  intro a hK; exact ⟨m61, Nat.lt_succ_self m61, (IntKind.wrap IntKind.i64 (i58 + 1)), hK.weaken ⟨rfl, rfl, rfl, rfl, rfl, rfl, rfl, rfl, rfl, trivial⟩, he265, (by omega), hs59, (ownR.wideN hs60 (by omega)), hF⟩
            · intro hc269
              replace hF := bif_f hc269 hF
              refine WC.exit' ?_
              refine NX.then_e ?_
              refine NX.then_e ?_
              refine NX.blk_hit ?_
              refine NX.seq ?_
              refine WC.seq ?_
              refine WC.region ?_
              refine TL.yld rfl rfl (yld_move rfl rfl) ?_
              refine TL.yld rfl rfl (yld_eql rfl rfl rfl) ?_
              refine TL.yld rfl rfl (yld_move rfl rfl) ?_
              refine TL.cut 4 [(176, .bool ((((r50.2 == 0)) && (decide ((r21.1.length : Int) > 0)))))] (fun w' => Ext w56 w') ?_ ?_
              · rcases Bool.eq_false_or_eq_true ((r50.2 == 0)) with hg270 | hg270
                ·
                  refine TL.gy (j := 2) (t := 172) rfl rfl rfl hg270 rfl (yld_move rfl rfl) ?_
                  refine TL.gy (j := 2) (t := 172) rfl rfl rfl hg270 rfl (yld_len_own (c := (cSl (cInt .i64))) rfl Tryd.underlying38 rfl hs60) ?_
                  refine TL.gy (j := 2) (t := 172) rfl rfl rfl hg270 rfl (yld_gtr rfl rfl rfl) ?_
                  refine TL.yld rfl rfl (yld_and_t rfl rfl hg270 rfl) ?_
                  exact TL.nil fun a h => ⟨h.weaken ⟨rfl, trivial⟩, Ext.refl _⟩
                ·
                  refine TL.gnu (j := 2) (t := 172) rfl rfl rfl hg270 rfl ?_
                  refine TL.gnu (j := 2) (t := 172) rfl rfl rfl hg270 rfl ?_
                  refine TL.gnu (j := 2) (t := 172) rfl rfl rfl hg270 rfl ?_
                  refine TL.yld rfl rfl (yld_and_f (b2 := decide ((r21.1.length : Int) > 0)) rfl rfl hg270 rfl) ?_
                  exact TL.nil fun a h => ⟨h.weaken ⟨rfl, trivial⟩, Ext.refl _⟩
              intro w271 hx272
              have he273 : Ext w w271 := Ext.trans he57 hx272
              have hs59 := ownR.ext hs59 hx272
              have hs60 := ownR.extN hs60 hx272 (by omega)
              have hz274 := (hx272).size
              refine TL.yld rfl rfl (yld_assign rfl rfl) ?_
              refine TL.done ?_
              refine NX.seq ?_
              refine WC.ret' ?_
              obtain rfl := Option.some.inj hF
              exact NX.end (rs := [.tmp 2]) (vs := [.bool ((((r50.2 == 0)) && (decide ((r21.1.length : Int) > 0))))]) rfl ⟨rfl, trivial⟩ ⟨_, rfl, rfl, he273⟩

theorem Rd_5 : Rd Tryd.prog 5 (cInt .u8) (inK .u8) := Rd.int Tryd.underlying5
theorem Rd_34 : Rd Tryd.prog 34 (cSl (cInt .u8)) (fun xs => xs.length ≤ 9223372036854775807 ∧ ∀ x ∈ xs, (inK .u8) x) := Rd.slice Tryd.underlying34 (by kernel_rfl) rfl Rd_5
end Go.Proofs.YthjagnioabgceabDoor
