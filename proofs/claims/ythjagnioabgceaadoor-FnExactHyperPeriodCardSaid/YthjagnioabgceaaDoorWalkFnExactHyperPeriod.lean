/- The walks: every function that FnExactHyperPeriod reaches computes the plain function that is typed beside it; no condition. -/
import Derived.Test.YthjagnioabgceaaDoorWalkFnExactHyperPeriodP0
import Derived.Test.YthjagnioabgceaaDoorDat
import Derived.Test.YthjagnioabgceaaDoorShelf
set_option linter.all false
set_option maxRecDepth 20000
namespace Go.Proofs.YthjagnioabgceaaDoor
open Go Go.RowKit Go.Eng
-- loop.example/g00861/impl.HyperPeriod
def F_impl_HyperPeriod (n : Nat) (a0_list : List S_Clock) (a1_a : Int) (a2_b : Int) : Option (Int × Int) := (Option.bind (F_impl_clockCode n a0_list ([a1_a, a2_b])) fun r16 => (bif (r16 != 0) then (some (0, r16)) else (Option.bind (F_impl_hyperPeriod n a0_list a1_a a2_b) fun r24 => (bif decide (r24 > 100000000) then (some (0, 3)) else (some (r24, 0))))))
set_option maxHeartbeats 4000000 in
theorem W_impl_HyperPeriod {n : Nat} {a0_list : List S_Clock} {a1_a : Int} {a2_b : Int} {r : Int × Int} {w : World} {v1 : Value} (hF : F_impl_HyperPeriod n a0_list a1_a a2_b = some r) (ha2 : slRep C_Clock w (Iv 0 w.heap.size) a0_list v1) :
    Calls Tryd.prog 37 [v1, .int .i64 a1_a, .int .i64 a2_b].toArray w (Ret fun u w2 => u = .tuple #[.int .i64 r.1, .int .i64 r.2] ∧ Ext w w2) := by
  refine calls_of Tryd.func37 rfl Tryd.ntmps37 ?_
  have he0 : Ext w w := Ext.refl w
  unfold F_impl_HyperPeriod at hF
  refine WC.seq ?_
  refine WC.region ?_
  refine TL.yld rfl rfl (yld_assign rfl rfl) ?_
  refine TL.yld rfl rfl (yld_assign rfl rfl) ?_
  refine TL.done ?_
  refine NX.seq ?_
  refine WC.seq ?_
  refine WC.seq ?_
  refine WC.region ?_
  refine TL.yld rfl rfl (yld_move rfl rfl) ?_
  refine TL.yld rfl rfl (yld_move rfl rfl) ?_
  refine TL.yld rfl rfl (yld_move rfl rfl) ?_
  refine TL.eff rfl rfl (eff_buildSlice (c := (cInt .i64)) (xs := [a1_a, a2_b]) (S := (Iv 0 0)) (uss := [(0, [.int .i64 a1_a]), (1, [.int .i64 a2_b])]) (out := [.int .i64 a1_a, .int .i64 a2_b]) rfl Tryd.underlying46 in_2 rfl rfl (fillL_all [[.int .i64 a1_a], [.int .i64 a2_b]] rfl rfl rfl) rfl rfl rfl rfl (one_rep (uss := [[.int .i64 a1_a], [.int .i64 a2_b]]) (show reps _ _ _ _ _ from ⟨rfl, rfl, trivial⟩) rfl) (fun k h => by have := h.2; omega) rfl) ?_
  rintro v3 w4 ⟨g5, hv6, hg7, hz8, hx9, hs10⟩
  have he11 : Ext w w4 := Ext.trans he0 hx9
  have hz12 := (hx9).size
  have hlo13 : w.heap.size ≤ g5 := by rw [hg7]; exact (he0).size
  have hbd14 := bd_of hv6
  clear hv6
  obtain ⟨r16, hr17, hF⟩ := bsome hF
  refine TL.eff rfl rfl (eff_call rfl gf_54 rfl (W_impl_clockCode hr17 ((slRep.old ha2 he11 (Nat.le_refl _)).wide (Nat.le_refl _) (he11).size) (ownR.slf hs10 (Nat.zero_le _) (Nat.le_refl _)))) ?_
  rintro _ w18 ⟨rfl, hx19⟩
  have he20 : Ext w w18 := Ext.trans he11 hx19
  have hs10 := ownR.ext hs10 hx19
  have hz21 := (hx19).size
  refine TL.yld rfl rfl (yld_assign rfl rfl) ?_
  refine TL.done ?_
  refine NX.seq ?_
  refine WC.seq ?_
  refine WC.region ?_
  refine TL.yld rfl rfl (yld_move rfl rfl) ?_
  refine TL.yld rfl rfl (yld_neq rfl rfl rfl) ?_
  refine TL.done ?_
  refine NX.seq ?_
  refine WC.cond rfl ?_ ?_
  · intro hc22
    replace hF := bif_t hc22 hF
    refine WC.seq ?_
    refine WC.region ?_
    refine TL.yld rfl rfl (yld_move rfl rfl) ?_
    refine TL.yld rfl rfl (yld_assign rfl rfl) ?_
    refine TL.yld rfl rfl (yld_assign rfl rfl) ?_
    refine TL.done ?_
    refine NX.seq ?_
    refine WC.ret' ?_
    refine NX.then_r ?_
    obtain rfl := Option.some.inj hF
    exact NX.end (rs := [.tmp 6, .tmp 7]) (vs := [.int .i64 0, .int .i64 r16]) rfl ⟨rfl, rfl, trivial⟩ ⟨_, rfl, rfl, he20⟩
  · intro hc23
    replace hF := bif_f hc23 hF
    refine WC.skip' ?_
    refine NX.seq ?_
    refine WC.seq ?_
    refine WC.region ?_
    refine TL.yld rfl rfl (yld_move rfl rfl) ?_
    refine TL.yld rfl rfl (yld_move rfl rfl) ?_
    refine TL.yld rfl rfl (yld_move rfl rfl) ?_
    obtain ⟨r24, hr25, hF⟩ := bsome hF
    refine TL.eff rfl rfl (eff_call rfl gf_68 rfl (W_impl_hyperPeriod hr25 ((slRep.old ha2 he20 (Nat.le_refl _)).wide (Nat.le_refl _) (he20).size))) ?_
    rintro _ w26 ⟨rfl, hx27⟩
    have he28 : Ext w w26 := Ext.trans he20 hx27
    have hs10 := ownR.ext hs10 hx27
    have hz29 := (hx27).size
    refine TL.yld rfl rfl (yld_assign rfl rfl) ?_
    refine TL.done ?_
    refine NX.seq ?_
    refine WC.seq ?_
    refine WC.seq ?_
    refine WC.region ?_
    refine TL.yld rfl rfl (yld_move rfl rfl) ?_
    refine TL.yld rfl rfl (yld_gtr rfl rfl rfl) ?_
    refine TL.done ?_
    refine NX.seq ?_
    refine WC.cond rfl ?_ ?_
    · intro hc30
      replace hF := bif_t hc30 hF
      refine WC.seq ?_
      refine WC.region ?_
      refine TL.yld rfl rfl (yld_assign rfl rfl) ?_
      refine TL.yld rfl rfl (yld_assign rfl rfl) ?_
      refine TL.done ?_
      refine NX.seq ?_
      refine WC.ret' ?_
      refine NX.then_r ?_
      obtain rfl := Option.some.inj hF
      exact NX.end (rs := [.tmp 6, .tmp 7]) (vs := [.int .i64 0, .int .i64 3]) rfl ⟨rfl, rfl, trivial⟩ ⟨_, rfl, rfl, he28⟩
    · intro hc31
      replace hF := bif_f hc31 hF
      refine WC.skip' ?_
      refine NX.seq ?_
      refine WC.seq ?_
      refine WC.region ?_
      refine TL.yld rfl rfl (yld_move rfl rfl) ?_
      refine TL.yld rfl rfl (yld_assign rfl rfl) ?_
      refine TL.yld rfl rfl (yld_assign rfl rfl) ?_
      refine TL.done ?_
      refine NX.seq ?_
      refine WC.ret' ?_
      obtain rfl := Option.some.inj hF
      exact NX.end (rs := [.tmp 6, .tmp 7]) (vs := [.int .i64 r24, .int .i64 0]) rfl ⟨rfl, rfl, trivial⟩ ⟨_, rfl, rfl, he28⟩

-- loop.example/g00861/laws.FnExactHyperPeriod
def F_laws_FnExactHyperPeriod (n : Nat) (a0_aList : List S_Clock) (a1_aA : Int) (a2_aB : Int) : Option Bool := (Option.bind (F_laws_szClockS n a0_aList 1048576) fun r3 => (bif decide (r3 < 0) then (some true) else (Option.bind (F_laws_toClockS n a0_aList) fun r11 => (Option.bind (F_spec_HyperPeriod n r11 a1_aA a2_aB) fun r21 => (Option.bind (F_laws_toClockS n a0_aList) fun r27 => (Option.bind (F_impl_HyperPeriod n r27 a1_aA a2_aB) fun r37 => (bif (((r37.1 != r21.1)) || ((r37.2 != r21.2))) then (some false) else (Option.bind (F_laws_toClockS n a0_aList) fun r50 => (Option.bind (F_laws_eqClockS n r27 r50) fun r60 => (bif (!r60) then (some false) else (some true)))))))))))
set_option maxHeartbeats 4000000 in
theorem W_laws_FnExactHyperPeriod {n : Nat} {a0_aList : List S_Clock} {a1_aA : Int} {a2_aB : Int} {r : Bool} {w : World} {v1 : Value} (hF : F_laws_FnExactHyperPeriod n a0_aList a1_aA a2_aB = some r) (ha2 : slRep C_Clock w (Iv 0 w.heap.size) a0_aList v1) :
    Calls Tryd.prog 12 [v1, .int .i64 a1_aA, .int .i64 a2_aB].toArray w (Ret fun u w2 => u = .bool r ∧ Ext w w2) := by
  refine calls_of Tryd.func12 rfl Tryd.ntmps12 ?_
  have he0 : Ext w w := Ext.refl w
  unfold F_laws_FnExactHyperPeriod at hF
  refine WC.seq ?_
  refine WC.region ?_
  refine TL.yld rfl rfl (yld_assign rfl rfl) ?_
  refine TL.done ?_
  refine NX.seq ?_
  refine WC.seq ?_
  refine WC.region ?_
  refine TL.yld rfl rfl (yld_assign rfl rfl) ?_
  refine TL.done ?_
  refine NX.seq ?_
  refine WC.seq ?_
  refine WC.region ?_
  refine TL.yld rfl rfl (yld_move rfl rfl) ?_
  refine TL.yld rfl rfl (yld_move rfl rfl) ?_
  obtain ⟨r3, hr4, hF⟩ := bsome hF
  refine TL.eff rfl rfl (eff_call rfl gf_15 rfl (W_laws_szClockS hr4 ((slRep.old ha2 he0 (Nat.le_refl _)).wide (Nat.le_refl _) (he0).size))) ?_
  rintro _ w5 ⟨rfl, hx6⟩
  have he7 : Ext w w5 := Ext.trans he0 hx6
  have hz8 := (hx6).size
  refine TL.yld rfl rfl (yld_assign rfl rfl) ?_
  refine TL.done ?_
  refine NX.seq ?_
  refine WC.seq ?_
  refine WC.seq ?_
  refine WC.region ?_
  refine TL.yld rfl rfl (yld_move rfl rfl) ?_
  refine TL.yld rfl rfl (yld_lss rfl rfl rfl) ?_
  refine TL.done ?_
  refine NX.seq ?_
  refine WC.cond rfl ?_ ?_
  · intro hc9
    replace hF := bif_t hc9 hF
    refine WC.seq ?_
    refine WC.region ?_
    refine TL.yld rfl rfl (yld_assign rfl rfl) ?_
    refine TL.done ?_
    refine NX.seq ?_
    refine WC.ret' ?_
    refine NX.then_r ?_
    obtain rfl := Option.some.inj hF
    exact NX.end (rs := [.tmp 6]) (vs := [.bool true]) rfl ⟨rfl, trivial⟩ ⟨_, rfl, rfl, he7⟩
  · intro hc10
    replace hF := bif_f hc10 hF
    refine WC.skip' ?_
    refine NX.seq ?_
    refine WC.seq ?_
    refine WC.region ?_
    refine TL.yld rfl rfl (yld_move rfl rfl) ?_
    obtain ⟨r11, hr12, hF⟩ := bsome hF
    refine TL.eff rfl rfl (eff_call rfl gf_17 rfl (W_laws_toClockS hr12 ((slRep.old ha2 he7 (Nat.le_refl _)).wide (Nat.le_refl _) (he7).size))) ?_
    rintro v15 w13 ⟨_, rfl, hs16, hx14⟩
    have he19 : Ext w w13 := Ext.trans he7 hx14
    have hz20 := (hx14).size
    have hbd18 := ownR.blk hs16
    refine TL.yld rfl rfl (yld_move rfl rfl) ?_
    refine TL.yld rfl rfl (yld_move rfl rfl) ?_
    obtain ⟨r21, hr22, hF⟩ := bsome hF
    refine TL.eff rfl rfl (eff_call rfl gf_36 rfl (W_spec_HyperPeriod hr22 (ownR.slf hs16 (Nat.zero_le _) (Nat.le_refl _)))) ?_
    rintro _ w23 ⟨rfl, hx24⟩
    have he25 : Ext w w23 := Ext.trans he19 hx24
    have hs16 := ownR.ext hs16 hx24
    have hz26 := (hx24).size
    refine TL.yld rfl rfl (yld_move rfl rfl) ?_
    refine TL.yld rfl rfl (yld_extract rfl rfl rfl) ?_
    refine TL.yld rfl rfl (yld_extract rfl rfl rfl) ?_
    refine TL.yld rfl rfl (yld_assign rfl rfl) ?_
    refine TL.yld rfl rfl (yld_assign rfl rfl) ?_
    refine TL.done ?_
    refine NX.seq ?_
    refine WC.seq ?_
    refine WC.region ?_
    refine TL.yld rfl rfl (yld_move rfl rfl) ?_
    obtain ⟨r27, hr28, hF⟩ := bsome hF
    refine TL.eff rfl rfl (eff_call rfl gf_17 rfl (W_laws_toClockS hr28 ((slRep.old ha2 he25 (Nat.le_refl _)).wide (Nat.le_refl _) (he25).size))) ?_
    rintro v31 w29 ⟨_, rfl, hs32, hx30⟩
    have he35 : Ext w w29 := Ext.trans he25 hx30
    have hs16 := ownR.ext hs16 hx30
    have hz36 := (hx30).size
    have hbd34 := ownR.blk hs32
    refine TL.yld rfl rfl (yld_assign rfl rfl) ?_
    refine TL.done ?_
    refine NX.seq ?_
    refine WC.seq ?_
    refine WC.region ?_
    refine TL.yld rfl rfl (yld_move rfl rfl) ?_
    refine TL.yld rfl rfl (yld_move rfl rfl) ?_
    refine TL.yld rfl rfl (yld_move rfl rfl) ?_
    obtain ⟨r37, hr38, hF⟩ := bsome hF
    refine TL.eff rfl rfl (eff_call rfl gf_37 rfl (W_impl_HyperPeriod hr38 (ownR.slf hs32 (Nat.zero_le _) (Nat.le_refl _)))) ?_
    rintro _ w39 ⟨rfl, hx40⟩
    have he41 : Ext w w39 := Ext.trans he35 hx40
    have hs16 := ownR.ext hs16 hx40
    have hs32 := ownR.ext hs32 hx40
    have hz42 := (hx40).size
    refine TL.yld rfl rfl (yld_move rfl rfl) ?_
    refine TL.yld rfl rfl (yld_extract rfl rfl rfl) ?_
    refine TL.yld rfl rfl (yld_extract rfl rfl rfl) ?_
    refine TL.yld rfl rfl (yld_assign rfl rfl) ?_
    refine TL.yld rfl rfl (yld_assign rfl rfl) ?_
    refine TL.done ?_
    refine NX.seq ?_
    refine WC.seq ?_
    refine WC.seq ?_
    refine WC.region ?_
    refine TL.yld rfl rfl (yld_move rfl rfl) ?_
    refine TL.yld rfl rfl (yld_move rfl rfl) ?_
    refine TL.yld rfl rfl (yld_neq rfl rfl rfl) ?_
    refine TL.yld rfl rfl (yld_move rfl rfl) ?_
    refine TL.cut 4 [(0, v1), (10, v31), (42, .bool ((((r37.1 != r21.1)) || ((r37.2 != r21.2)))))] (fun w' => Ext w39 w') ?_ ?_
    · rcases Bool.eq_false_or_eq_true ((r37.1 != r21.1)) with hg43 | hg43
      ·
        refine TL.gnu (j := 3) (t := 38) rfl rfl rfl hg43 rfl ?_
        refine TL.gnu (j := 3) (t := 38) rfl rfl rfl hg43 rfl ?_
        refine TL.gnu (j := 3) (t := 38) rfl rfl rfl hg43 rfl ?_
        refine TL.yld rfl rfl (yld_or_t (b2 := (r37.2 != r21.2)) rfl rfl hg43 rfl) ?_
        exact TL.nil fun a h => ⟨h.weaken ⟨rfl, rfl, rfl, trivial⟩, Ext.refl _⟩
      ·
        refine TL.gy (j := 3) (t := 38) rfl rfl rfl hg43 rfl (yld_move rfl rfl) ?_
        refine TL.gy (j := 3) (t := 38) rfl rfl rfl hg43 rfl (yld_move rfl rfl) ?_
        refine TL.gy (j := 3) (t := 38) rfl rfl rfl hg43 rfl (yld_neq rfl rfl rfl) ?_
        refine TL.yld rfl rfl (yld_or_f rfl rfl hg43 rfl) ?_
        exact TL.nil fun a h => ⟨h.weaken ⟨rfl, rfl, rfl, trivial⟩, Ext.refl _⟩
    intro w44 hx45
    have he46 : Ext w w44 := Ext.trans he41 hx45
    have hs16 := ownR.ext hs16 hx45
    have hs32 := ownR.ext hs32 hx45
    have hz47 := (hx45).size
    refine TL.done ?_
    refine NX.seq ?_
    refine WC.cond rfl ?_ ?_
    · intro hc48
      replace hF := bif_t hc48 hF
      refine WC.seq ?_
      refine WC.region ?_
      refine TL.yld rfl rfl (yld_assign rfl rfl) ?_
      refine TL.done ?_
      refine NX.seq ?_
      refine WC.ret' ?_
      refine NX.then_r ?_
      obtain rfl := Option.some.inj hF
      exact NX.end (rs := [.tmp 6]) (vs := [.bool false]) rfl ⟨rfl, trivial⟩ ⟨_, rfl, rfl, he46⟩
    · intro hc49
      replace hF := bif_f hc49 hF
      refine WC.skip' ?_
      refine NX.seq ?_
      refine WC.seq ?_
      refine WC.seq ?_
      refine WC.region ?_
      refine TL.yld rfl rfl (yld_move rfl rfl) ?_
      refine TL.yld rfl rfl (yld_move rfl rfl) ?_
      obtain ⟨r50, hr51, hF⟩ := bsome hF
      refine TL.eff rfl rfl (eff_call rfl gf_17 rfl (W_laws_toClockS hr51 ((slRep.old ha2 he46 (Nat.le_refl _)).wide (Nat.le_refl _) (he46).size))) ?_
      rintro v54 w52 ⟨_, rfl, hs55, hx53⟩
      have he58 : Ext w w52 := Ext.trans he46 hx53
      have hs16 := ownR.ext hs16 hx53
      have hs32 := ownR.ext hs32 hx53
      have hz59 := (hx53).size
      have hbd57 := ownR.blk hs55
      obtain ⟨r60, hr61, hF⟩ := bsome hF
      refine TL.eff rfl rfl (eff_call rfl gf_19 rfl (W_laws_eqClockS hr61 (ownR.slf hs32 (Nat.zero_le _) (Nat.le_refl _)) (ownR.slf hs55 (Nat.zero_le _) (Nat.le_refl _)))) ?_
      rintro _ w62 ⟨rfl, hx63⟩
      have he64 : Ext w w62 := Ext.trans he58 hx63
      have hs16 := ownR.ext hs16 hx63
      have hs32 := ownR.ext hs32 hx63
      have hs55 := ownR.ext hs55 hx63
      have hz65 := (hx63).size
      refine TL.yld rfl rfl (yld_not rfl rfl) ?_
      refine TL.done ?_
      refine NX.seq ?_
      refine WC.cond rfl ?_ ?_
      · intro hc66
        replace hF := bif_t hc66 hF
        refine WC.seq ?_
        refine WC.region ?_
        refine TL.yld rfl rfl (yld_assign rfl rfl) ?_
        refine TL.done ?_
        refine NX.seq ?_
        refine WC.ret' ?_
        refine NX.then_r ?_
        obtain rfl := Option.some.inj hF
        exact NX.end (rs := [.tmp 6]) (vs := [.bool false]) rfl ⟨rfl, trivial⟩ ⟨_, rfl, rfl, he64⟩
      · intro hc67
        replace hF := bif_f hc67 hF
        refine WC.skip' ?_
        refine NX.seq ?_
        refine WC.seq ?_
        refine WC.region ?_
        refine TL.yld rfl rfl (yld_assign rfl rfl) ?_
        refine TL.done ?_
        refine NX.seq ?_
        refine WC.ret' ?_
        obtain rfl := Option.some.inj hF
        exact NX.end (rs := [.tmp 6]) (vs := [.bool true]) rfl ⟨rfl, trivial⟩ ⟨_, rfl, rfl, he64⟩

theorem Z_Clock {n : Nat} {a : S_Clock} {left : Int} (hR : R_Clock a) (h0 : 0 ≤ left) (h1 : left ≤ 1048576) (hn : 1048577 ≤ n) : ∃ r, F_laws_szClock n a left = some r ∧ r ≤ left ∧ (0 ≤ r → SM_Clock a) := by
  rw [F_laws_szClock]
  have g0 : a.Name.size ≤ 9223372036854775807 := maxLen_is ▸ hR.1
  have w0 : IntKind.wrap IntKind.i64 (left - (a.Name.size : Int)) = left - (a.Name.size : Int) := wrap64 (by omega) (by omega)
  rw [w0]
  generalize hq0 : left - (a.Name.size : Int) = r0
  by_cases h_0 : r0 < 0
  · rw [decide_eq_true h_0]; exact ⟨-1, rfl, by omega, fun h => by omega⟩
  rw [decide_eq_false h_0, cond_false]
  exact ⟨_, rfl, by omega, fun _ => ⟨(by omega), trivial, trivial, trivial, trivial, trivial, trivial, trivial, trivial, trivial, trivial⟩⟩
theorem Z_ClockS {n : Nat} {a : List S_Clock} {left : Int} (hR : (fun xs => xs.length ≤ 9223372036854775807 ∧ ∀ x ∈ xs, R_Clock x) a) (h0 : 0 ≤ left) (h1 : left ≤ 1048576) (hn : 1048577 ≤ n) : ∃ r, F_laws_szClockS n a left = some r ∧ r ≤ left ∧ (0 ≤ r → (fun xs => xs.length ≤ 1048576 ∧ ∀ x ∈ xs, SM_Clock x) a) := by
  have hl := hR.1
  rw [F_laws_szClockS, wrap64 (by omega) (by omega)]
  by_cases h : left - (a.length : Int) < 0
  · rw [decide_eq_true h]; exact ⟨-1, rfl, by omega, fun h => by omega⟩
  · rw [decide_eq_false h, cond_false]
    obtain ⟨r, e, hr, hs⟩ := szL (xs := a) (L := fun m l i => F_laws_szClockS_L1 n a (fun i7 i8 => (some i7)) m l i) (f := F_laws_szClock n) (SM := SM_Clock) (by omega) (fun x hx left g0 g1 => Z_Clock (hR.2 x hx) g0 g1 hn) (fun m i left hi hi2 => by simp only [F_laws_szClockS_L1_s, dltE hi, cond_true, getI_elE hi, Option.bind_some, wSE hi2]) (fun m left => by simp only [F_laws_szClockS_L1_s, dnlE, cond_false]) n 0 (left - (a.length : Int)) (by omega) (by omega) (by omega) (by omega) (fun j _ hj => by omega)
    exact ⟨r, e, by omega, fun h => ⟨by omega, hs h⟩⟩
theorem T_Clock {n : Nat} {a : S_Clock} (h : SM_Clock a) (hn : 1048577 ≤ n) : F_laws_toClock n a = some a := by
  rfl
theorem TL_ClockS {n : Nat} {a : List S_Clock} {k : Int → List S_Clock → Option (List S_Clock)} : ∀ (m : Nat) (i : Int) (l : List S_Clock), F_laws_toClockS_L1 n a k m i l = cpL a (F_laws_toClock n) k m i l
  | 0, _, _ => rfl
  | m + 1, i, l => by simp only [F_laws_toClockS_L1_s, cpL_s, Option.bind_some, TL_ClockS (n := n) (a := a) (k := k) m]
theorem T_ClockS {n : Nat} {a : List S_Clock} (h : (fun xs => xs.length ≤ 1048576 ∧ ∀ x ∈ xs, SM_Clock x) a) (hn : 1048577 ≤ n) : F_laws_toClockS n a = some a := by
  rw [F_laws_toClockS, mkN_ok h.1 (by omega), Option.bind_some, TL_ClockS (n := n)]
  exact cpL_id (fun x hx => T_Clock (h.2 x hx) hn) h.1 hn
theorem E_Clock {n : Nat} {a : S_Clock} (h : SM_Clock a) (hn : 1048577 ≤ n) : F_laws_eqClock n a a = some true := by
  simp [F_laws_eqClock]
theorem EL_ClockS {n : Nat} {a b : List S_Clock} {k : Int → Option Bool} : ∀ (m : Nat) (i : Int), F_laws_eqClockS_L1 n a b k m i = eqL a b (F_laws_eqClock n) (some false) k m i
  | 0, _ => rfl
  | m + 1, i => by simp only [F_laws_eqClockS_L1_s, eqL_s, Option.bind_some, bne, EL_ClockS (n := n) (a := a) (b := b) (k := k) m]
theorem E_ClockS {n : Nat} {a : List S_Clock} (h : (fun xs => xs.length ≤ 1048576 ∧ ∀ x ∈ xs, SM_Clock x) a) (hn : 1048577 ≤ n) : F_laws_eqClockS n a a = some true := by
  rw [F_laws_eqClockS, EL_ClockS (n := n)]
  have := eqL_same (f := F_laws_eqClock n) (no := some false) (k := fun (i : Int) => some true) (fun x hx => E_Clock (h.2 x hx) hn) h.1 n 0 (by omega) (by omega)
  simpa using this
theorem Rd_2 : Rd Tryd.prog 2 (cInt .i64) (inK .i64) := Rd.int Tryd.underlying2
theorem Rd_9 : Rd Tryd.prog 9 cStr (fun s => s.size ≤ maxLen) := Rd.str Tryd.underlying9
theorem Rd_4 : Rd Tryd.prog 4 cBool (fun _ => True) := Rd.bool Tryd.underlying4
theorem Rd_56 : Rd Tryd.prog 56 C_Clock R_Clock := Rd.map (Rd.struct (fs := [_, _, _, _, _, _, _, _, _, _, _]) Tryd.underlying56 (by kernel_rfl) (RdF.cons Rd_9 rfl (by kernel_rfl) (RdF.cons Rd_2 rfl (by kernel_rfl) (RdF.cons Rd_2 rfl (by kernel_rfl) (RdF.cons Rd_2 rfl (by kernel_rfl) (RdF.cons Rd_2 rfl (by kernel_rfl) (RdF.cons Rd_2 rfl (by kernel_rfl) (RdF.cons Rd_2 rfl (by kernel_rfl) (RdF.cons Rd_4 rfl (by kernel_rfl) (RdF.cons Rd_2 rfl (by kernel_rfl) (RdF.cons Rd_2 rfl (by kernel_rfl) (RdF.one Rd_2 rfl (by kernel_rfl))))))))))))) (fun (x : S_Clock) => (x.Name, x.Place, x.Period, x.RiseAt, x.FallAt, x.Source, x.Divide, x.Invert, x.EarlyLatency, x.LateLatency, x.Uncertainty)) (fun p => (⟨p.1, p.2.1, p.2.2.1, p.2.2.2.1, p.2.2.2.2.1, p.2.2.2.2.2.1, p.2.2.2.2.2.2.1, p.2.2.2.2.2.2.2.1, p.2.2.2.2.2.2.2.2.1, p.2.2.2.2.2.2.2.2.2.1, p.2.2.2.2.2.2.2.2.2.2⟩ : S_Clock)) (fun _ => rfl)
theorem Rd_22 : Rd Tryd.prog 22 (cSl C_Clock) (fun xs => xs.length ≤ 9223372036854775807 ∧ ∀ x ∈ xs, R_Clock x) := Rd.slice Tryd.underlying22 (by kernel_rfl) rfl Rd_56
end Go.Proofs.YthjagnioabgceaaDoor
