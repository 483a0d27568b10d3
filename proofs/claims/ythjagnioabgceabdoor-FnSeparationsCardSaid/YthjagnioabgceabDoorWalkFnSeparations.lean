/- The walks: every function that FnSeparations reaches computes the plain function that is typed beside it; no condition. -/
import Derived.Test.YthjagnioabgceabDoorWalkFnSeparationsP1
import Derived.Test.YthjagnioabgceabDoorDat
import Derived.Test.YthjagnioabgceabDoorShelf
set_option linter.all false
set_option maxRecDepth 20000
namespace Go.Proofs.YthjagnioabgceabDoor
open Go Go.RowKit Go.Eng
-- loop.example/g00861/laws.FnSeparations
def F_laws_FnSeparations (n : Nat) (a0_code : List Int) : Option Bool := (Option.bind (F_laws_big n a0_code) fun r3 => (bif r3 then (some true) else (Option.bind (F_spec_DrawSetupSeparation n a0_code) fun r11 => (Option.bind (F_impl_SetupSeparation n r11.1 r11.2.1 r11.2.2.1 r11.2.2.2.1 r11.2.2.2.2) fun r21 => (Option.bind (F_spec_SetupSeparation n r11.1 r11.2.1 r11.2.2.1 r11.2.2.2.1 r11.2.2.2.2) fun r27 => (bif (((r21.2 != r27.2)) || ((r21.1 != r27.1))) then (some false) else (Option.bind (F_impl_HoldSeparation n r11.1 r11.2.1 r11.2.2.1 r11.2.2.2.1 r11.2.2.2.2) fun r40 => (bif (r21.2 != 0) then (some ((((r40.2 == r21.2)) && ((r40.1 == 0))))) else (Option.bind (F_impl_WaveOf n r11.1 r11.2.2.2.1) fun r53 => (Option.bind (F_impl_WaveOf n r11.1 r11.2.1) fun r59 => (Option.bind (F_impl_MulticycleSetup n r11.1 r11.2.1 r11.2.2.1 r11.2.2.2.1 r11.2.2.2.2 1) fun r65 => (Option.bind (F_impl_MulticycleHold n r11.1 r11.2.1 r11.2.2.1 r11.2.2.2.1 r11.2.2.2.2 1 0) fun r71 => (Option.bind (F_impl_MulticycleSetup n r11.1 r11.2.1 r11.2.2.1 r11.2.2.2.1 r11.2.2.2.2 2) fun r77 => (bif ((IntKind.wrap IntKind.i64 ((IntKind.wrap IntKind.i64 ((IntKind.wrap IntKind.i64 ((IntKind.wrap IntKind.i64 ((IntKind.wrap IntKind.i64 (r40.2 + r53.2.2.2)) + r59.2.2.2)) + r65.2)) + r71.2)) + r77.2)) != 0) then (some false) else (some (((((((((((((decide (r21.1 > 0)) && (decide (r21.1 ≤ r53.1)))) && (decide (r40.1 ≥ IntKind.wrap IntKind.i64 (r21.1 - (min r53.1 r59.1)))))) && (decide (r40.1 ≤ IntKind.wrap IntKind.i64 (r53.1 - (min r53.1 r59.1)))))) && ((r65.1 == r21.1)))) && ((r71.1 == r40.1)))) && ((r77.1 == (IntKind.wrap IntKind.i64 (r21.1 + r53.1)))))))))))))))))))))
set_option maxHeartbeats 40000000 in
theorem W_laws_FnSeparations {n : Nat} {a0_code : List Int} {r : Bool} {w : World} {v1 : Value} (hF : F_laws_FnSeparations n a0_code = some r) (ha2 : slRep (cInt .u8) w (Iv 0 w.heap.size) a0_code v1) :
    Calls Tryd.prog 8 [v1].toArray w (Ret fun u w2 => u = .bool r ∧ Ext w w2) := by
  refine calls_of Tryd.func8 rfl Tryd.ntmps8 ?_
  have he0 : Ext w w := Ext.refl w
  unfold F_laws_FnSeparations at hF
  refine WC.seq ?_
  refine WC.region ?_
  refine TL.yld rfl rfl (yld_assign rfl rfl) ?_
  refine TL.done ?_
  refine NX.seq ?_
  refine WC.seq ?_
  refine WC.seq ?_
  refine WC.region ?_
  refine TL.yld rfl rfl (yld_move rfl rfl) ?_
  obtain ⟨r3, hr4, hF⟩ := bsome hF
  refine TL.eff rfl rfl (eff_call rfl gf_23 rfl (W_laws_big hr4 ((slRep.old ha2 he0 (Nat.le_refl _)).wide (Nat.le_refl _) (he0).size))) ?_
  rintro _ w5 ⟨rfl, hx6⟩
  have he7 : Ext w w5 := Ext.trans he0 hx6
  have hz8 := (hx6).size
  refine TL.done ?_
  refine NX.seq ?_
  refine WC.cond rfl ?_ ?_
  · intro hc9
    replace hF := bif_t hc9 hF
    refine WC.seq ?_
    refine WC.region ?_
    refine TL.yld rfl rfl (yld_assign rfl rfl) ?_
    refine TL.done ?_
    refine NX.seq ?_
    refine WC.ret' ?_
    refine NX.then_r ?_
    obtain rfl := Option.some.inj hF
    exact NX.end (rs := [.tmp 2]) (vs := [.bool true]) rfl ⟨rfl, trivial⟩ ⟨_, rfl, rfl, he7⟩
  · intro hc10
    replace hF := bif_f hc10 hF
    refine WC.skip' ?_
    refine NX.seq ?_
    refine WC.seq ?_
    refine WC.region ?_
    refine TL.yld rfl rfl (yld_move rfl rfl) ?_
    obtain ⟨r11, hr12, hF⟩ := bsome hF
    refine TL.eff rfl rfl (eff_call rfl gf_29 rfl (W_spec_DrawSetupSeparation hr12 ((slRep.old ha2 he7 (Nat.le_refl _)).wide (Nat.le_refl _) (he7).size))) ?_
    rintro _ w13 ⟨v15, rfl, hs16, hx14⟩
    have he19 : Ext w w13 := Ext.trans he7 hx14
    have hz20 := (hx14).size
    have hbd18 := ownR.blk hs16
    refine TL.yld rfl rfl (yld_move rfl rfl) ?_
    refine TL.yld rfl rfl (yld_extract rfl rfl rfl) ?_
    refine TL.yld rfl rfl (yld_extract rfl rfl rfl) ?_
    refine TL.yld rfl rfl (yld_extract rfl rfl rfl) ?_
    refine TL.yld rfl rfl (yld_extract rfl rfl rfl) ?_
    refine TL.yld rfl rfl (yld_extract rfl rfl rfl) ?_
    refine TL.yld rfl rfl (yld_assign rfl rfl) ?_
    refine TL.yld rfl rfl (yld_assign rfl rfl) ?_
    refine TL.yld rfl rfl (yld_assign rfl rfl) ?_
    refine TL.yld rfl rfl (yld_assign rfl rfl) ?_
    refine TL.yld rfl rfl (yld_assign rfl rfl) ?_
    refine TL.done ?_
    refine NX.seq ?_
    refine WC.seq ?_
    refine WC.region ?_
    refine TL.yld rfl rfl (yld_move rfl rfl) ?_
    refine TL.yld rfl rfl (yld_move rfl rfl) ?_
    refine TL.yld rfl rfl (yld_move rfl rfl) ?_
    refine TL.yld rfl rfl (yld_move rfl rfl) ?_
    refine TL.yld rfl rfl (yld_move rfl rfl) ?_
    obtain ⟨r21, hr22, hF⟩ := bsome hF
    refine TL.eff rfl rfl (eff_call rfl gf_15 rfl (W_impl_SetupSeparation hr22 (ownR.slf hs16 (Nat.zero_le _) (Nat.le_refl _)))) ?_
    rintro _ w23 ⟨rfl, hx24⟩
    have he25 : Ext w w23 := Ext.trans he19 hx24
    have hs16 := ownR.ext hs16 hx24
    have hz26 := (hx24).size
    refine TL.yld rfl rfl (yld_move rfl rfl) ?_
    refine TL.yld rfl rfl (yld_extract rfl rfl rfl) ?_
    refine TL.yld rfl rfl (yld_extract rfl rfl rfl) ?_
    refine TL.yld rfl rfl (yld_assign rfl rfl) ?_
    refine TL.yld rfl rfl (yld_assign rfl rfl) ?_
    refine TL.done ?_
    refine NX.seq ?_
    refine WC.seq ?_
    refine WC.seq ?_
    refine WC.region ?_
    refine TL.yld rfl rfl (yld_move rfl rfl) ?_
    refine TL.yld rfl rfl (yld_move rfl rfl) ?_
    refine TL.yld rfl rfl (yld_move rfl rfl) ?_
    refine TL.yld rfl rfl (yld_move rfl rfl) ?_
    refine TL.yld rfl rfl (yld_move rfl rfl) ?_
    obtain ⟨r27, hr28, hF⟩ := bsome hF
    refine TL.eff rfl rfl (eff_call rfl gf_13 rfl (W_spec_SetupSeparation hr28 (ownR.slf hs16 (Nat.zero_le _) (Nat.le_refl _)))) ?_
    rintro _ w29 ⟨rfl, hx30⟩
    have he31 : Ext w w29 := Ext.trans he25 hx30
    have hs16 := ownR.ext hs16 hx30
    have hz32 := (hx30).size
    refine TL.yld rfl rfl (yld_move rfl rfl) ?_
    refine TL.yld rfl rfl (yld_extract rfl rfl rfl) ?_
    refine TL.yld rfl rfl (yld_extract rfl rfl rfl) ?_
    refine TL.yld rfl rfl (yld_assign rfl rfl) ?_
    refine TL.yld rfl rfl (yld_assign rfl rfl) ?_
    refine TL.done ?_
    refine NX.seq ?_
    refine WC.seq ?_
    refine WC.region ?_
    refine TL.yld rfl rfl (yld_move rfl rfl) ?_
    refine TL.yld rfl rfl (yld_move rfl rfl) ?_
    refine TL.yld rfl rfl (yld_neq rfl rfl rfl) ?_
    refine TL.yld rfl rfl (yld_move rfl rfl) ?_
    refine TL.cut 4 [(3, v15), (4, .int .i64 r11.2.1), (5, .int .i64 r11.2.2.1), (6, .int .i64 r11.2.2.2.1), (7, .int .i64 r11.2.2.2.2), (8, .int .i64 r21.1), (9, .int .i64 r21.2), (63, .bool ((((r21.2 != r27.2)) || ((r21.1 != r27.1)))))] (fun w' => Ext w29 w') ?_ ?_
    · rcases Bool.eq_false_or_eq_true ((r21.2 != r27.2)) with hg33 | hg33
      ·
        refine TL.gnu (j := 3) (t := 59) rfl rfl rfl hg33 rfl ?_
        refine TL.gnu (j := 3) (t := 59) rfl rfl rfl hg33 rfl ?_
        refine TL.gnu (j := 3) (t := 59) rfl rfl rfl hg33 rfl ?_
        refine TL.yld rfl rfl (yld_or_t (b2 := (r21.1 != r27.1)) rfl rfl hg33 rfl) ?_
        exact TL.nil fun a h => ⟨h.weaken ⟨rfl, rfl, rfl, rfl, rfl, rfl, rfl, rfl, trivial⟩, Ext.refl _⟩
      ·
        refine TL.gy (j := 3) (t := 59) rfl rfl rfl hg33 rfl (yld_move rfl rfl) ?_
        refine TL.gy (j := 3) (t := 59) rfl rfl rfl hg33 rfl (yld_move rfl rfl) ?_
        refine TL.gy (j := 3) (t := 59) rfl rfl rfl hg33 rfl (yld_neq rfl rfl rfl) ?_
        refine TL.yld rfl rfl (yld_or_f rfl rfl hg33 rfl) ?_
        exact TL.nil fun a h => ⟨h.weaken ⟨rfl, rfl, rfl, rfl, rfl, rfl, rfl, rfl, trivial⟩, Ext.refl _⟩
    intro w34 hx35
    have he36 : Ext w w34 := Ext.trans he31 hx35
    have hs16 := ownR.ext hs16 hx35
    have hz37 := (hx35).size
    refine TL.done ?_
    refine NX.seq ?_
    refine WC.cond rfl ?_ ?_
    · intro hc38
      replace hF := bif_t hc38 hF
      refine WC.seq ?_
      refine WC.region ?_
      refine TL.yld rfl rfl (yld_assign rfl rfl) ?_
      refine TL.done ?_
      refine NX.seq ?_
      refine WC.ret' ?_
      refine NX.then_r ?_
      obtain rfl := Option.some.inj hF
      exact NX.end (rs := [.tmp 2]) (vs := [.bool false]) rfl ⟨rfl, trivial⟩ ⟨_, rfl, rfl, he36⟩
    · intro hc39
      replace hF := bif_f hc39 hF
      refine WC.skip' ?_
      refine NX.seq ?_
      refine WC.seq ?_
      refine WC.region ?_
      refine TL.yld rfl rfl (yld_move rfl rfl) ?_
      refine TL.yld rfl rfl (yld_move rfl rfl) ?_
      refine TL.yld rfl rfl (yld_move rfl rfl) ?_
      refine TL.yld rfl rfl (yld_move rfl rfl) ?_
      refine TL.yld rfl rfl (yld_move rfl rfl) ?_
      obtain ⟨r40, hr41, hF⟩ := bsome hF
      refine TL.eff rfl rfl (eff_call rfl gf_18 rfl (W_impl_HoldSeparation hr41 (ownR.slf hs16 (Nat.zero_le _) (Nat.le_refl _)))) ?_
      rintro _ w42 ⟨rfl, hx43⟩
      have he44 : Ext w w42 := Ext.trans he36 hx43
      have hs16 := ownR.ext hs16 hx43
      have hz45 := (hx43).size
      refine TL.yld rfl rfl (yld_move rfl rfl) ?_
      refine TL.yld rfl rfl (yld_extract rfl rfl rfl) ?_
      refine TL.yld rfl rfl (yld_extract rfl rfl rfl) ?_
      refine TL.yld rfl rfl (yld_assign rfl rfl) ?_
      refine TL.yld rfl rfl (yld_assign rfl rfl) ?_
      refine TL.done ?_
      refine NX.seq ?_
      refine WC.seq ?_
      refine WC.seq ?_
      refine WC.region ?_
      refine TL.yld rfl rfl (yld_move rfl rfl) ?_
      refine TL.yld rfl rfl (yld_neq rfl rfl rfl) ?_
      refine TL.done ?_
      refine NX.seq ?_
      refine WC.cond rfl ?_ ?_
      · intro hc46
        replace hF := bif_t hc46 hF
        refine WC.seq ?_
        refine WC.region ?_
        refine TL.yld rfl rfl (yld_move rfl rfl) ?_
        refine TL.yld rfl rfl (yld_move rfl rfl) ?_
        refine TL.yld rfl rfl (yld_eql rfl rfl rfl) ?_
        refine TL.yld rfl rfl (yld_move rfl rfl) ?_
        refine TL.cut 3 [(81, .bool ((((r40.2 == r21.2)) && ((r40.1 == 0)))))] (fun w' => Ext w42 w') ?_ ?_
        · rcases Bool.eq_false_or_eq_true ((r40.2 == r21.2)) with hg47 | hg47
          ·
            refine TL.gy (j := 3) (t := 78) rfl rfl rfl hg47 rfl (yld_move rfl rfl) ?_
            refine TL.gy (j := 3) (t := 78) rfl rfl rfl hg47 rfl (yld_eql rfl rfl rfl) ?_
            refine TL.yld rfl rfl (yld_and_t rfl rfl hg47 rfl) ?_
            exact TL.nil fun a h => ⟨h.weaken ⟨rfl, trivial⟩, Ext.refl _⟩
          ·
            refine TL.gnu (j := 3) (t := 78) rfl rfl rfl hg47 rfl ?_
            refine TL.gnu (j := 3) (t := 78) rfl rfl rfl hg47 rfl ?_
            refine TL.yld rfl rfl (yld_and_f (b2 := (r40.1 == 0)) rfl rfl hg47 rfl) ?_
            exact TL.nil fun a h => ⟨h.weaken ⟨rfl, trivial⟩, Ext.refl _⟩
        intro w48 hx49
        have he50 : Ext w w48 := Ext.trans he44 hx49
        have hs16 := ownR.ext hs16 hx49
        have hz51 := (hx49).size
        refine TL.yld rfl rfl (yld_assign rfl rfl) ?_
        refine TL.done ?_
        refine NX.seq ?_
        refine WC.ret' ?_
        refine NX.then_r ?_
        obtain rfl := Option.some.inj hF
        exact NX.end (rs := [.tmp 2]) (vs := [.bool ((((r40.2 == r21.2)) && ((r40.1 == 0))))]) rfl ⟨rfl, trivial⟩ ⟨_, rfl, rfl, he50⟩
      · intro hc52
        replace hF := bif_f hc52 hF
        refine WC.skip' ?_
        refine NX.seq ?_
        refine WC.seq ?_
        refine WC.region ?_
        refine TL.yld rfl rfl (yld_move rfl rfl) ?_
        refine TL.yld rfl rfl (yld_move rfl rfl) ?_
        obtain ⟨r53, hr54, hF⟩ := bsome hF
        refine TL.eff rfl rfl (eff_call rfl gf_30 rfl (W_impl_WaveOf hr54 (ownR.slf hs16 (Nat.zero_le _) (Nat.le_refl _)))) ?_
        rintro _ w55 ⟨rfl, hx56⟩
        have he57 : Ext w w55 := Ext.trans he44 hx56
        have hs16 := ownR.ext hs16 hx56
        have hz58 := (hx56).size
        refine TL.yld rfl rfl (yld_move rfl rfl) ?_
        refine TL.yld rfl rfl (yld_extract rfl rfl rfl) ?_
        refine TL.yld rfl rfl (yld_extract rfl rfl rfl) ?_
        refine TL.yld rfl rfl (yld_extract rfl rfl rfl) ?_
        refine TL.yld rfl rfl (yld_extract rfl rfl rfl) ?_
        refine TL.yld rfl rfl (yld_assign rfl rfl) ?_
        refine TL.yld rfl rfl (yld_assign rfl rfl) ?_
        refine TL.yld rfl rfl (yld_assign rfl rfl) ?_
        refine TL.yld rfl rfl (yld_assign rfl rfl) ?_
        refine TL.done ?_
        refine NX.seq ?_
        refine WC.seq ?_
        refine WC.region ?_
        refine TL.yld rfl rfl (yld_move rfl rfl) ?_
        refine TL.yld rfl rfl (yld_move rfl rfl) ?_
        obtain ⟨r59, hr60, hF⟩ := bsome hF
        refine TL.eff rfl rfl (eff_call rfl gf_30 rfl (W_impl_WaveOf hr60 (ownR.slf hs16 (Nat.zero_le _) (Nat.le_refl _)))) ?_
        rintro _ w61 ⟨rfl, hx62⟩
        have he63 : Ext w w61 := Ext.trans he57 hx62
        have hs16 := ownR.ext hs16 hx62
        have hz64 := (hx62).size
        refine TL.yld rfl rfl (yld_move rfl rfl) ?_
        refine TL.yld rfl rfl (yld_extract rfl rfl rfl) ?_
        refine TL.yld rfl rfl (yld_extract rfl rfl rfl) ?_
        refine TL.yld rfl rfl (yld_extract rfl rfl rfl) ?_
        refine TL.yld rfl rfl (yld_extract rfl rfl rfl) ?_
        refine TL.yld rfl rfl (yld_assign rfl rfl) ?_
        refine TL.yld rfl rfl (yld_assign rfl rfl) ?_
        refine TL.yld rfl rfl (yld_assign rfl rfl) ?_
        refine TL.yld rfl rfl (yld_assign rfl rfl) ?_
        refine TL.done ?_
        refine NX.seq ?_
        refine WC.seq ?_
        refine WC.region ?_
        refine TL.yld rfl rfl (yld_move rfl rfl) ?_
        refine TL.yld rfl rfl (yld_move rfl rfl) ?_
        refine TL.yld rfl rfl (yld_move rfl rfl) ?_
        refine TL.yld rfl rfl (yld_move rfl rfl) ?_
        refine TL.yld rfl rfl (yld_move rfl rfl) ?_
        obtain ⟨r65, hr66, hF⟩ := bsome hF
        refine TL.eff rfl rfl (eff_call rfl gf_20 rfl (W_impl_MulticycleSetup hr66 (ownR.slf hs16 (Nat.zero_le _) (Nat.le_refl _)))) ?_
        rintro _ w67 ⟨rfl, hx68⟩
        have he69 : Ext w w67 := Ext.trans he63 hx68
        have hs16 := ownR.ext hs16 hx68
        have hz70 := (hx68).size
        refine TL.yld rfl rfl (yld_move rfl rfl) ?_
        refine TL.yld rfl rfl (yld_extract rfl rfl rfl) ?_
        refine TL.yld rfl rfl (yld_extract rfl rfl rfl) ?_
        refine TL.yld rfl rfl (yld_assign rfl rfl) ?_
        refine TL.yld rfl rfl (yld_assign rfl rfl) ?_
        refine TL.done ?_
        refine NX.seq ?_
        refine WC.seq ?_
        refine WC.region ?_
        refine TL.yld rfl rfl (yld_move rfl rfl) ?_
        refine TL.yld rfl rfl (yld_move rfl rfl) ?_
        refine TL.yld rfl rfl (yld_move rfl rfl) ?_
        refine TL.yld rfl rfl (yld_move rfl rfl) ?_
        refine TL.yld rfl rfl (yld_move rfl rfl) ?_
        obtain ⟨r71, hr72, hF⟩ := bsome hF
        refine TL.eff rfl rfl (eff_call rfl gf_22 rfl (W_impl_MulticycleHold hr72 (ownR.slf hs16 (Nat.zero_le _) (Nat.le_refl _)))) ?_
        rintro _ w73 ⟨rfl, hx74⟩
        have he75 : Ext w w73 := Ext.trans he69 hx74
        have hs16 := ownR.ext hs16 hx74
        have hz76 := (hx74).size
        refine TL.yld rfl rfl (yld_move rfl rfl) ?_
        refine TL.yld rfl rfl (yld_extract rfl rfl rfl) ?_
        refine TL.yld rfl rfl (yld_extract rfl rfl rfl) ?_
        refine TL.yld rfl rfl (yld_assign rfl rfl) ?_
        refine TL.yld rfl rfl (yld_assign rfl rfl) ?_
        refine TL.done ?_
        refine NX.seq ?_
        refine WC.seq ?_
        refine WC.region ?_
        refine TL.yld rfl rfl (yld_move rfl rfl) ?_
        refine TL.yld rfl rfl (yld_move rfl rfl) ?_
        refine TL.yld rfl rfl (yld_move rfl rfl) ?_
        refine TL.yld rfl rfl (yld_move rfl rfl) ?_
        refine TL.yld rfl rfl (yld_move rfl rfl) ?_
        obtain ⟨r77, hr78, hF⟩ := bsome hF
        refine TL.eff rfl rfl (eff_call rfl gf_20 rfl (W_impl_MulticycleSetup hr78 (ownR.slf hs16 (Nat.zero_le _) (Nat.le_refl _)))) ?_
        rintro _ w79 ⟨rfl, hx80⟩
        have he81 : Ext w w79 := Ext.trans he75 hx80
        have hs16 := ownR.ext hs16 hx80
        have hz82 := (hx80).size
        refine TL.yld rfl rfl (yld_move rfl rfl) ?_
        refine TL.yld rfl rfl (yld_extract rfl rfl rfl) ?_
        refine TL.yld rfl rfl (yld_extract rfl rfl rfl) ?_
        refine TL.yld rfl rfl (yld_assign rfl rfl) ?_
        refine TL.yld rfl rfl (yld_assign rfl rfl) ?_
        refine TL.done ?_
        refine NX.seq ?_
        refine WC.seq ?_
        refine WC.seq ?_
        refine WC.region ?_
        refine TL.yld rfl rfl (yld_move rfl rfl) ?_
        refine TL.yld rfl rfl (yld_move rfl rfl) ?_
        refine TL.yld rfl rfl (yld_add rfl rfl rfl) ?_
        refine TL.yld rfl rfl (yld_move rfl rfl) ?_
        refine TL.yld rfl rfl (yld_add rfl rfl rfl) ?_
        refine TL.yld rfl rfl (yld_move rfl rfl) ?_
        refine TL.yld rfl rfl (yld_add rfl rfl rfl) ?_
        refine TL.yld rfl rfl (yld_move rfl rfl) ?_
        refine TL.yld rfl rfl (yld_add rfl rfl rfl) ?_
        refine TL.yld rfl rfl (yld_move rfl rfl) ?_
        refine TL.yld rfl rfl (yld_add rfl rfl rfl) ?_
        refine TL.yld rfl rfl (yld_neq rfl rfl rfl) ?_
        refine TL.done ?_
        refine NX.seq ?_
        refine WC.cond rfl ?_ ?_
        · intro hc83
          replace hF := bif_t hc83 hF
          refine WC.seq ?_
          refine WC.region ?_
          refine TL.yld rfl rfl (yld_assign rfl rfl) ?_
          refine TL.done ?_
          refine NX.seq ?_
          refine WC.ret' ?_
          refine NX.then_r ?_
          obtain rfl := Option.some.inj hF
          exact NX.end (rs := [.tmp 2]) (vs := [.bool false]) rfl ⟨rfl, trivial⟩ ⟨_, rfl, rfl, he81⟩
        · intro hc84
          replace hF := bif_f hc84 hF
          refine WC.skip' ?_
          refine NX.seq ?_
          refine WC.seq ?_
          refine WC.region ?_
          refine TL.yld rfl rfl (yld_move rfl rfl) ?_
          refine TL.yld rfl rfl (yld_gtr rfl rfl rfl) ?_
          refine TL.yld rfl rfl (yld_move rfl rfl) ?_
          refine TL.cut 4 [(8, .int .i64 r21.1), (12, .int .i64 r40.1), (14, .int .i64 r53.1), (18, .int .i64 r59.1), (22, .int .i64 r65.1), (24, .int .i64 r71.1), (26, .int .i64 r77.1), (143, .bool (((decide (r21.1 > 0)) && (decide (r21.1 ≤ r53.1)))))] (fun w' => Ext w79 w') ?_ ?_
          · rcases Bool.eq_false_or_eq_true (decide (r21.1 > 0)) with hg85 | hg85
            ·
              refine TL.gy (j := 2) (t := 139) rfl rfl rfl hg85 rfl (yld_move rfl rfl) ?_
              refine TL.gy (j := 2) (t := 139) rfl rfl rfl hg85 rfl (yld_move rfl rfl) ?_
              refine TL.gy (j := 2) (t := 139) rfl rfl rfl hg85 rfl (yld_leq rfl rfl rfl) ?_
              refine TL.yld rfl rfl (yld_and_t rfl rfl hg85 rfl) ?_
              exact TL.nil fun a h => ⟨h.weaken ⟨rfl, rfl, rfl, rfl, rfl, rfl, rfl, rfl, trivial⟩, Ext.refl _⟩
            ·
              refine TL.gnu (j := 2) (t := 139) rfl rfl rfl hg85 rfl ?_
              refine TL.gnu (j := 2) (t := 139) rfl rfl rfl hg85 rfl ?_
              refine TL.gnu (j := 2) (t := 139) rfl rfl rfl hg85 rfl ?_
              refine TL.yld rfl rfl (yld_and_f (b2 := decide (r21.1 ≤ r53.1)) rfl rfl hg85 rfl) ?_
              exact TL.nil fun a h => ⟨h.weaken ⟨rfl, rfl, rfl, rfl, rfl, rfl, rfl, rfl, trivial⟩, Ext.refl _⟩
          intro w86 hx87
          have he88 : Ext w w86 := Ext.trans he81 hx87
          have hs16 := ownR.ext hs16 hx87
          have hz89 := (hx87).size
          refine TL.yld rfl rfl (yld_move rfl rfl) ?_
          refine TL.cut 8 [(8, .int .i64 r21.1), (12, .int .i64 r40.1), (14, .int .i64 r53.1), (18, .int .i64 r59.1), (22, .int .i64 r65.1), (24, .int .i64 r71.1), (26, .int .i64 r77.1), (152, .bool (((((decide (r21.1 > 0)) && (decide (r21.1 ≤ r53.1)))) && (decide (r40.1 ≥ IntKind.wrap IntKind.i64 (r21.1 - (min r53.1 r59.1)))))))] (fun w' => Ext w86 w') ?_ ?_
          · rcases Bool.eq_false_or_eq_true (((decide (r21.1 > 0)) && (decide (r21.1 ≤ r53.1)))) with hg90 | hg90
            ·
              refine TL.gy (j := 7) (t := 144) rfl rfl rfl hg90 rfl (yld_move rfl rfl) ?_
              refine TL.gy (j := 7) (t := 144) rfl rfl rfl hg90 rfl (yld_move rfl rfl) ?_
              refine TL.gy (j := 7) (t := 144) rfl rfl rfl hg90 rfl (yld_move rfl rfl) ?_
              refine TL.gy (j := 7) (t := 144) rfl rfl rfl hg90 rfl (yld_move rfl rfl) ?_
              refine TL.gy (j := 7) (t := 144) rfl rfl rfl hg90 rfl (yld_min2 rfl rfl rfl) ?_
              refine TL.gy (j := 7) (t := 144) rfl rfl rfl hg90 rfl (yld_sub rfl rfl rfl) ?_
              refine TL.gy (j := 7) (t := 144) rfl rfl rfl hg90 rfl (yld_geq rfl rfl rfl) ?_
              refine TL.yld rfl rfl (yld_and_t rfl rfl hg90 rfl) ?_
              exact TL.nil fun a h => ⟨h.weaken ⟨rfl, rfl, rfl, rfl, rfl, rfl, rfl, rfl, trivial⟩, Ext.refl _⟩
            ·
              refine TL.gnu (j := 7) (t := 144) rfl rfl rfl hg90 rfl ?_
              refine TL.gnu (j := 7) (t := 144) rfl rfl rfl hg90 rfl ?_
              refine TL.gnu (j := 7) (t := 144) rfl rfl rfl hg90 rfl ?_
              refine TL.gnu (j := 7) (t := 144) rfl rfl rfl hg90 rfl ?_
              refine TL.gnu (j := 7) (t := 144) rfl rfl rfl hg90 rfl ?_
              refine TL.gnu (j := 7) (t := 144) rfl rfl rfl hg90 rfl ?_
              refine TL.gnu (j := 7) (t := 144) rfl rfl rfl hg90 rfl ?_
              refine TL.yld rfl rfl (yld_and_f (b2 := decide (r40.1 ≥ IntKind.wrap IntKind.i64 (r21.1 - (min r53.1 r59.1)))) rfl rfl hg90 rfl) ?_
              exact TL.nil fun a h => ⟨h.weaken ⟨rfl, rfl, rfl, rfl, rfl, rfl, rfl, rfl, trivial⟩, Ext.refl _⟩
          intro w91 hx92
          have he93 : Ext w w91 := Ext.trans he88 hx92
          have hs16 := ownR.ext hs16 hx92
          have hz94 := (hx92).size
          refine TL.yld rfl rfl (yld_move rfl rfl) ?_
          refine TL.cut 8 [(8, .int .i64 r21.1), (12, .int .i64 r40.1), (14, .int .i64 r53.1), (22, .int .i64 r65.1), (24, .int .i64 r71.1), (26, .int .i64 r77.1), (161, .bool (((((((decide (r21.1 > 0)) && (decide (r21.1 ≤ r53.1)))) && (decide (r40.1 ≥ IntKind.wrap IntKind.i64 (r21.1 - (min r53.1 r59.1)))))) && (decide (r40.1 ≤ IntKind.wrap IntKind.i64 (r53.1 - (min r53.1 r59.1)))))))] (fun w' => Ext w91 w') ?_ ?_
          · rcases Bool.eq_false_or_eq_true (((((decide (r21.1 > 0)) && (decide (r21.1 ≤ r53.1)))) && (decide (r40.1 ≥ IntKind.wrap IntKind.i64 (r21.1 - (min r53.1 r59.1)))))) with hg95 | hg95
            ·
              refine TL.gy (j := 16) (t := 153) rfl rfl rfl hg95 rfl (yld_move rfl rfl) ?_
              refine TL.gy (j := 16) (t := 153) rfl rfl rfl hg95 rfl (yld_move rfl rfl) ?_
              refine TL.gy (j := 16) (t := 153) rfl rfl rfl hg95 rfl (yld_move rfl rfl) ?_
              refine TL.gy (j := 16) (t := 153) rfl rfl rfl hg95 rfl (yld_move rfl rfl) ?_
              refine TL.gy (j := 16) (t := 153) rfl rfl rfl hg95 rfl (yld_min2 rfl rfl rfl) ?_
              refine TL.gy (j := 16) (t := 153) rfl rfl rfl hg95 rfl (yld_sub rfl rfl rfl) ?_
              refine TL.gy (j := 16) (t := 153) rfl rfl rfl hg95 rfl (yld_leq rfl rfl rfl) ?_
              refine TL.yld rfl rfl (yld_and_t rfl rfl hg95 rfl) ?_
              exact TL.nil fun a h => ⟨h.weaken ⟨rfl, rfl, rfl, rfl, rfl, rfl, rfl, trivial⟩, Ext.refl _⟩
            ·
              refine TL.gnu (j := 16) (t := 153) rfl rfl rfl hg95 rfl ?_
              refine TL.gnu (j := 16) (t := 153) rfl rfl rfl hg95 rfl ?_
              refine TL.gnu (j := 16) (t := 153) rfl rfl rfl hg95 rfl ?_
              refine TL.gnu (j := 16) (t := 153) rfl rfl rfl hg95 rfl ?_
              refine TL.gnu (j := 16) (t := 153) rfl rfl rfl hg95 rfl ?_
              refine TL.gnu (j := 16) (t := 153) rfl rfl rfl hg95 rfl ?_
              refine TL.gnu (j := 16) (t := 153) rfl rfl rfl hg95 rfl ?_
              refine TL.yld rfl rfl (yld_and_f (b2 := decide (r40.1 ≤ IntKind.wrap IntKind.i64 (r53.1 - (min r53.1 r59.1)))) rfl rfl hg95 rfl) ?_
              exact TL.nil fun a h => ⟨h.weaken ⟨rfl, rfl, rfl, rfl, rfl, rfl, rfl, trivial⟩, Ext.refl _⟩
          intro w96 hx97
          have he98 : Ext w w96 := Ext.trans he93 hx97
          have hs16 := ownR.ext hs16 hx97
          have hz99 := (hx97).size
          refine TL.yld rfl rfl (yld_move rfl rfl) ?_
          refine TL.cut 4 [(8, .int .i64 r21.1), (12, .int .i64 r40.1), (14, .int .i64 r53.1), (24, .int .i64 r71.1), (26, .int .i64 r77.1), (166, .bool (((((((((decide (r21.1 > 0)) && (decide (r21.1 ≤ r53.1)))) && (decide (r40.1 ≥ IntKind.wrap IntKind.i64 (r21.1 - (min r53.1 r59.1)))))) && (decide (r40.1 ≤ IntKind.wrap IntKind.i64 (r53.1 - (min r53.1 r59.1)))))) && ((r65.1 == r21.1)))))] (fun w' => Ext w96 w') ?_ ?_
          · rcases Bool.eq_false_or_eq_true (((((((decide (r21.1 > 0)) && (decide (r21.1 ≤ r53.1)))) && (decide (r40.1 ≥ IntKind.wrap IntKind.i64 (r21.1 - (min r53.1 r59.1)))))) && (decide (r40.1 ≤ IntKind.wrap IntKind.i64 (r53.1 - (min r53.1 r59.1)))))) with hg100 | hg100
            ·
              refine TL.gy (j := 25) (t := 162) rfl rfl rfl hg100 rfl (yld_move rfl rfl) ?_
              refine TL.gy (j := 25) (t := 162) rfl rfl rfl hg100 rfl (yld_move rfl rfl) ?_
              refine TL.gy (j := 25) (t := 162) rfl rfl rfl hg100 rfl (yld_eql rfl rfl rfl) ?_
              refine TL.yld rfl rfl (yld_and_t rfl rfl hg100 rfl) ?_
              exact TL.nil fun a h => ⟨h.weaken ⟨rfl, rfl, rfl, rfl, rfl, rfl, trivial⟩, Ext.refl _⟩
            ·
              refine TL.gnu (j := 25) (t := 162) rfl rfl rfl hg100 rfl ?_
              refine TL.gnu (j := 25) (t := 162) rfl rfl rfl hg100 rfl ?_
              refine TL.gnu (j := 25) (t := 162) rfl rfl rfl hg100 rfl ?_
              refine TL.yld rfl rfl (yld_and_f (b2 := (r65.1 == r21.1)) rfl rfl hg100 rfl) ?_
              exact TL.nil fun a h => ⟨h.weaken ⟨rfl, rfl, rfl, rfl, rfl, rfl, trivial⟩, Ext.refl _⟩
          intro w101 hx102
          have he103 : Ext w w101 := Ext.trans he98 hx102
          have hs16 := ownR.ext hs16 hx102
          have hz104 := (hx102).size
          refine TL.yld rfl rfl (yld_move rfl rfl) ?_
          refine TL.cut 4 [(8, .int .i64 r21.1), (14, .int .i64 r53.1), (26, .int .i64 r77.1), (171, .bool (((((((((((decide (r21.1 > 0)) && (decide (r21.1 ≤ r53.1)))) && (decide (r40.1 ≥ IntKind.wrap IntKind.i64 (r21.1 - (min r53.1 r59.1)))))) && (decide (r40.1 ≤ IntKind.wrap IntKind.i64 (r53.1 - (min r53.1 r59.1)))))) && ((r65.1 == r21.1)))) && ((r71.1 == r40.1)))))] (fun w' => Ext w101 w') ?_ ?_
          · rcases Bool.eq_false_or_eq_true (((((((((decide (r21.1 > 0)) && (decide (r21.1 ≤ r53.1)))) && (decide (r40.1 ≥ IntKind.wrap IntKind.i64 (r21.1 - (min r53.1 r59.1)))))) && (decide (r40.1 ≤ IntKind.wrap IntKind.i64 (r53.1 - (min r53.1 r59.1)))))) && ((r65.1 == r21.1)))) with hg105 | hg105
            ·
              refine TL.gy (j := 30) (t := 167) rfl rfl rfl hg105 rfl (yld_move rfl rfl) ?_
              refine TL.gy (j := 30) (t := 167) rfl rfl rfl hg105 rfl (yld_move rfl rfl) ?_
              refine TL.gy (j := 30) (t := 167) rfl rfl rfl hg105 rfl (yld_eql rfl rfl rfl) ?_
              refine TL.yld rfl rfl (yld_and_t rfl rfl hg105 rfl) ?_
              exact TL.nil fun a h => ⟨h.weaken ⟨rfl, rfl, rfl, rfl, trivial⟩, Ext.refl _⟩
            ·
              refine TL.gnu (j := 30) (t := 167) rfl rfl rfl hg105 rfl ?_
              refine TL.gnu (j := 30) (t := 167) rfl rfl rfl hg105 rfl ?_
              refine TL.gnu (j := 30) (t := 167) rfl rfl rfl hg105 rfl ?_
              refine TL.yld rfl rfl (yld_and_f (b2 := (r71.1 == r40.1)) rfl rfl hg105 rfl) ?_
              exact TL.nil fun a h => ⟨h.weaken ⟨rfl, rfl, rfl, rfl, trivial⟩, Ext.refl _⟩
          intro w106 hx107
          have he108 : Ext w w106 := Ext.trans he103 hx107
          have hs16 := ownR.ext hs16 hx107
          have hz109 := (hx107).size
          refine TL.yld rfl rfl (yld_move rfl rfl) ?_
          refine TL.cut 6 [(178, .bool (((((((((((((decide (r21.1 > 0)) && (decide (r21.1 ≤ r53.1)))) && (decide (r40.1 ≥ IntKind.wrap IntKind.i64 (r21.1 - (min r53.1 r59.1)))))) && (decide (r40.1 ≤ IntKind.wrap IntKind.i64 (r53.1 - (min r53.1 r59.1)))))) && ((r65.1 == r21.1)))) && ((r71.1 == r40.1)))) && ((r77.1 == (IntKind.wrap IntKind.i64 (r21.1 + r53.1)))))))] (fun w' => Ext w106 w') ?_ ?_
          · rcases Bool.eq_false_or_eq_true (((((((((((decide (r21.1 > 0)) && (decide (r21.1 ≤ r53.1)))) && (decide (r40.1 ≥ IntKind.wrap IntKind.i64 (r21.1 - (min r53.1 r59.1)))))) && (decide (r40.1 ≤ IntKind.wrap IntKind.i64 (r53.1 - (min r53.1 r59.1)))))) && ((r65.1 == r21.1)))) && ((r71.1 == r40.1)))) with hg110 | hg110
            ·
              refine TL.gy (j := 35) (t := 172) rfl rfl rfl hg110 rfl (yld_move rfl rfl) ?_
              refine TL.gy (j := 35) (t := 172) rfl rfl rfl hg110 rfl (yld_move rfl rfl) ?_
              refine TL.gy (j := 35) (t := 172) rfl rfl rfl hg110 rfl (yld_move rfl rfl) ?_
              refine TL.gy (j := 35) (t := 172) rfl rfl rfl hg110 rfl (yld_add rfl rfl rfl) ?_
              refine TL.gy (j := 35) (t := 172) rfl rfl rfl hg110 rfl (yld_eql rfl rfl rfl) ?_
              refine TL.yld rfl rfl (yld_and_t rfl rfl hg110 rfl) ?_
              exact TL.nil fun a h => ⟨h.weaken ⟨rfl, trivial⟩, Ext.refl _⟩
            ·
              refine TL.gnu (j := 35) (t := 172) rfl rfl rfl hg110 rfl ?_
              refine TL.gnu (j := 35) (t := 172) rfl rfl rfl hg110 rfl ?_
              refine TL.gnu (j := 35) (t := 172) rfl rfl rfl hg110 rfl ?_
              refine TL.gnu (j := 35) (t := 172) rfl rfl rfl hg110 rfl ?_
              refine TL.gnu (j := 35) (t := 172) rfl rfl rfl hg110 rfl ?_
              refine TL.yld rfl rfl (yld_and_f (b2 := (r77.1 == (IntKind.wrap IntKind.i64 (r21.1 + r53.1)))) rfl rfl hg110 rfl) ?_
              exact TL.nil fun a h => ⟨h.weaken ⟨rfl, trivial⟩, Ext.refl _⟩
          intro w111 hx112
          have he113 : Ext w w111 := Ext.trans he108 hx112
          have hs16 := ownR.ext hs16 hx112
          have hz114 := (hx112).size
          refine TL.yld rfl rfl (yld_assign rfl rfl) ?_
          refine TL.done ?_
          refine NX.seq ?_
          refine WC.ret' ?_
          obtain rfl := Option.some.inj hF
          exact NX.end (rs := [.tmp 2]) (vs := [.bool (((((((((((((decide (r21.1 > 0)) && (decide (r21.1 ≤ r53.1)))) && (decide (r40.1 ≥ IntKind.wrap IntKind.i64 (r21.1 - (min r53.1 r59.1)))))) && (decide (r40.1 ≤ IntKind.wrap IntKind.i64 (r53.1 - (min r53.1 r59.1)))))) && ((r65.1 == r21.1)))) && ((r71.1 == r40.1)))) && ((r77.1 == (IntKind.wrap IntKind.i64 (r21.1 + r53.1))))))]) rfl ⟨rfl, trivial⟩ ⟨_, rfl, rfl, he113⟩

-- loop.example/g00861/spec.HoldSeparation
def F_spec_HoldSeparation_L1 (r11 : List (List Int)) (r21 : S_l14Wave) (r27 : S_l14Wave) (k0 : Int → Int → Option (Int × Int)) : Nat → Int → Int → Option (Int × Int)
  | 0 => fun _ _ => none
  | m + 1 => fun i75 i76 => (bif decide (i76 < (r11.length : Int)) then (Option.bind (getI r11 i76) fun x79 => (Option.bind (getI x79 1) fun x89 => (Option.bind (getI r11 i76) fun x97 => (Option.bind (getI x97 0) fun x107 => (F_spec_HoldSeparation_L1 r11 r21 r27 k0 m (max i75 (IntKind.wrap IntKind.i64 ((IntKind.wrap IntKind.i64 (x89 - x107)) - (min r21.period_ r27.period_)))) (IntKind.wrap IntKind.i64 (i76 + 1))))))) else (k0 i75 i76))
theorem F_spec_HoldSeparation_L1_z (r11 : List (List Int)) (r21 : S_l14Wave) (r27 : S_l14Wave) (k0 : Int → Int → Option (Int × Int)) (i75 : Int) (i76 : Int) : F_spec_HoldSeparation_L1 r11 r21 r27 k0 0 i75 i76 = none := rfl
theorem F_spec_HoldSeparation_L1_s (m : Nat) (r11 : List (List Int)) (r21 : S_l14Wave) (r27 : S_l14Wave) (k0 : Int → Int → Option (Int × Int)) (i75 : Int) (i76 : Int) : F_spec_HoldSeparation_L1 r11 r21 r27 k0 (m + 1) i75 i76 = (bif decide (i76 < (r11.length : Int)) then (Option.bind (getI r11 i76) fun x79 => (Option.bind (getI x79 1) fun x89 => (Option.bind (getI r11 i76) fun x97 => (Option.bind (getI x97 0) fun x107 => (F_spec_HoldSeparation_L1 r11 r21 r27 k0 m (max i75 (IntKind.wrap IntKind.i64 ((IntKind.wrap IntKind.i64 (x89 - x107)) - (min r21.period_ r27.period_)))) (IntKind.wrap IntKind.i64 (i76 + 1))))))) else (k0 i75 i76)) := rfl

def F_spec_HoldSeparation (n : Nat) (a0_list : List S_Clock) (a1_a : Int) (a2_ea : Int) (a3_b : Int) (a4_eb : Int) : Option (Int × Int) := (Option.bind (F_spec_l15Code n a0_list a1_a a2_ea a3_b a4_eb) fun r3 => (bif (r3 != 0) then (some (0, r3)) else (Option.bind (F_spec_l15Pairs n a0_list a1_a a2_ea a3_b a4_eb) fun r11 => (Option.bind (F_spec_l14Of n a0_list a1_a) fun r21 => (Option.bind (F_spec_l14Of n a0_list a3_b) fun r27 => (Option.bind (getI r11 0) fun x33 => (Option.bind (getI x33 1) fun x43 => (Option.bind (getI r11 0) fun x51 => (Option.bind (getI x51 0) fun x61 => (F_spec_HoldSeparation_L1 r11 r21 r27 (fun i75 i76 => (some (i75, 0))) n (IntKind.wrap IntKind.i64 ((IntKind.wrap IntKind.i64 (x43 - x61)) - (min r21.period_ r27.period_))) 0))))))))))

theorem Rd_5 : Rd Tryd.prog 5 (cInt .u8) (inK .u8) := Rd.int Tryd.underlying5
theorem Rd_34 : Rd Tryd.prog 34 (cSl (cInt .u8)) (fun xs => xs.length ≤ 9223372036854775807 ∧ ∀ x ∈ xs, (inK .u8) x) := Rd.slice Tryd.underlying34 (by kernel_rfl) rfl Rd_5
end Go.Proofs.YthjagnioabgceabDoor
