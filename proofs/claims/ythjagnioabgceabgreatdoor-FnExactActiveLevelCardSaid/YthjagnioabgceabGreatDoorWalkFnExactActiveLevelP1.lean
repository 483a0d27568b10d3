/- The walks: every function that FnExactActiveLevel reaches computes the plain function that is typed beside it; no condition. -/
import Derived.Test.YthjagnioabgceabGreatDoorWalkFnExactActiveLevelP0
import Derived.Test.YthjagnioabgceabGreatDoorDat
import Derived.Test.YthjagnioabgceabGreatDoorShelf
set_option linter.all false
set_option maxRecDepth 20000
namespace Go.Proofs.YthjagnioabgceabGreatDoor
open Go Go.RowKit Go.Eng
-- loop.example/g00861/spec.IsCell
def F_spec_IsCell_L2 (a0_c : S_Cell) (i68 : Int) (x71 : S_Arc) (k2 : Int → Option Bool) : Nat → Int → Option Bool
  | 0 => fun _ => none
  | m + 1 => fun i105 => (bif decide (i105 < i68) then (Option.bind (getI a0_c.Arcs i105) fun x111 => (Option.bind (bif (x111.Kind == x71.Kind) then (Option.bind (getI a0_c.Arcs i105) fun x123 => (some ((x123.From == x71.From)))) else (some false)) fun c123 => (Option.bind (bif c123 then (Option.bind (getI a0_c.Arcs i105) fun x138 => (some ((x138.To == x71.To)))) else (some false)) fun c138 => (bif c138 then (some false) else (F_spec_IsCell_L2 a0_c i68 x71 k2 m (IntKind.wrap IntKind.i64 (i105 + 1))))))) else (k2 i105))
theorem F_spec_IsCell_L2_z (a0_c : S_Cell) (i68 : Int) (x71 : S_Arc) (k2 : Int → Option Bool) (i105 : Int) : F_spec_IsCell_L2 a0_c i68 x71 k2 0 i105 = none := rfl
theorem F_spec_IsCell_L2_s (m : Nat) (a0_c : S_Cell) (i68 : Int) (x71 : S_Arc) (k2 : Int → Option Bool) (i105 : Int) : F_spec_IsCell_L2 a0_c i68 x71 k2 (m + 1) i105 = (bif decide (i105 < i68) then (Option.bind (getI a0_c.Arcs i105) fun x111 => (Option.bind (bif (x111.Kind == x71.Kind) then (Option.bind (getI a0_c.Arcs i105) fun x123 => (some ((x123.From == x71.From)))) else (some false)) fun c123 => (Option.bind (bif c123 then (Option.bind (getI a0_c.Arcs i105) fun x138 => (some ((x138.To == x71.To)))) else (some false)) fun c138 => (bif c138 then (some false) else (F_spec_IsCell_L2 a0_c i68 x71 k2 m (IntKind.wrap IntKind.i64 (i105 + 1))))))) else (k2 i105)) := rfl

def F_spec_IsCell_L3 (n : Nat) (a0_c : S_Cell) (k5 : Int → Option Bool) : Nat → Int → Option Bool
  | 0 => fun _ => none
  | m + 1 => fun i83 => (bif decide (i83 < (a0_c.Truth.length : Int)) then (Option.bind (getI a0_c.Truth i83) fun x86 => (Option.bind (F_spec_l01In n x86 0 1) fun r94 => (bif (!r94) then (some false) else (F_spec_IsCell_L3 n a0_c k5 m (IntKind.wrap IntKind.i64 (i83 + 1)))))) else (k5 i83))
theorem F_spec_IsCell_L3_z (n : Nat) (a0_c : S_Cell) (k5 : Int → Option Bool) (i83 : Int) : F_spec_IsCell_L3 n a0_c k5 0 i83 = none := rfl
theorem F_spec_IsCell_L3_s (m : Nat) (n : Nat) (a0_c : S_Cell) (k5 : Int → Option Bool) (i83 : Int) : F_spec_IsCell_L3 n a0_c k5 (m + 1) i83 = (bif decide (i83 < (a0_c.Truth.length : Int)) then (Option.bind (getI a0_c.Truth i83) fun x86 => (Option.bind (F_spec_l01In n x86 0 1) fun r94 => (bif (!r94) then (some false) else (F_spec_IsCell_L3 n a0_c k5 m (IntKind.wrap IntKind.i64 (i83 + 1)))))) else (k5 i83)) := rfl

def F_spec_IsCell_L1 (n : Nat) (a0_c : S_Cell) (k0 : Int → Option Bool) : Nat → Int → Option Bool
  | 0 => fun _ => none
  | m + 1 => fun i68 => (bif decide (i68 < (a0_c.Arcs.length : Int)) then (Option.bind (getI a0_c.Arcs i68) fun x71 => (Option.bind (F_spec_l03Arc n a0_c x71) fun r95 => (bif (!r95) then (some false) else (F_spec_IsCell_L2 a0_c i68 x71 (fun i105 => (F_spec_IsCell_L1 n a0_c k0 m (IntKind.wrap IntKind.i64 (i68 + 1)))) n 0)))) else (k0 i68))
theorem F_spec_IsCell_L1_z (n : Nat) (a0_c : S_Cell) (k0 : Int → Option Bool) (i68 : Int) : F_spec_IsCell_L1 n a0_c k0 0 i68 = none := rfl
theorem F_spec_IsCell_L1_s (m : Nat) (n : Nat) (a0_c : S_Cell) (k0 : Int → Option Bool) (i68 : Int) : F_spec_IsCell_L1 n a0_c k0 (m + 1) i68 = (bif decide (i68 < (a0_c.Arcs.length : Int)) then (Option.bind (getI a0_c.Arcs i68) fun x71 => (Option.bind (F_spec_l03Arc n a0_c x71) fun r95 => (bif (!r95) then (some false) else (F_spec_IsCell_L2 a0_c i68 x71 (fun i105 => (F_spec_IsCell_L1 n a0_c k0 m (IntKind.wrap IntKind.i64 (i68 + 1)))) n 0)))) else (k0 i68)) := rfl

def F_spec_IsCell (n : Nat) (a0_c : S_Cell) : Option Bool := (Option.bind (F_spec_l03Pins n a0_c) fun r14 => (Option.bind (bif (!r14.2) then (some true) else (Option.bind (F_spec_l03Name n a0_c.Name) fun r20 => (some (!r20)))) fun c20 => (Option.bind (bif (c20 || (decide ((a0_c.Arcs.length : Int) > 8))) then (some true) else (Option.bind (F_spec_l01In n a0_c.Leak 0 100000) fun r38 => (some (!r38)))) fun c38 => (Option.bind (bif c38 then (some true) else (Option.bind (F_spec_l01In n a0_c.Energy 0 100000) fun r51 => (some (!r51)))) fun c51 => (bif c51 then (some false) else (F_spec_IsCell_L1 n a0_c (fun i68 => (Option.bind (F_spec_l03Kinds n a0_c) fun r70 => (bif (a0_c.Kind == 1) then (F_spec_IsCell_L3 n a0_c (fun i83 => (Option.bind (bif (r14.1 == 0) then (bif decide (IntKind.wrap IntKind.u64 (IntKind.wrap IntKind.i64 (((a0_c.Pins.length : Int)) - 1)) < 0) then none else (some ((((a0_c.Truth.length : Int)) == (shlK .i64 1 (IntKind.wrap IntKind.u64 (IntKind.wrap IntKind.i64 (((a0_c.Pins.length : Int)) - 1)))))))) else (some false)) fun c85 => (some c85))) n 0) else (bif (a0_c.Kind == 2) then (Option.bind (bif (r14.1 == 1) then (Option.bind (getI r70 1) fun x115 => (some ((x115 == 0)))) else (some false)) fun c115 => (Option.bind (bif c115 then (Option.bind (getI r70 2) fun x125 => (Option.bind (getI r70 3) fun x132 => (some (((decide (x125 > 0)) != (decide (x132 > 0))))))) else (some false)) fun c125 => (some ((c125 && ((((a0_c.Truth.length : Int)) == 0))))))) else (bif (a0_c.Kind == 3) then (Option.bind (bif (r14.1 == 1) then (Option.bind (getI r70 1) fun x149 => (some (decide (x149 > 0)))) else (some false)) fun c149 => (Option.bind (bif c149 then (Option.bind (getI r70 2) fun x163 => (some (decide (x163 > 0)))) else (some false)) fun c163 => (Option.bind (bif c163 then (Option.bind (getI r70 3) fun x177 => (some ((x177 == 0)))) else (some false)) fun c177 => (some ((c177 && ((((a0_c.Truth.length : Int)) == 0)))))))) else (some false)))))) n 0))))))
set_option maxHeartbeats 40000000 in
theorem W_spec_IsCell {n : Nat} {a0_c : S_Cell} {r : Bool} {w : World} {v1 : Value} {v3 : Value} {v5 : Value} (hF : F_spec_IsCell n a0_c = some r) (ha2 : slRep C_Pin w (Iv 0 w.heap.size) a0_c.Pins v1) (ha4 : slRep C_Arc w (Iv 0 w.heap.size) a0_c.Arcs v3) (ha6 : slRep (cInt .i64) w (Iv 0 w.heap.size) a0_c.Truth v5) :
    Calls Tryz.prog 12 [.agg #[.string a0_c.Name, .int .i64 a0_c.Kind, v1, v3, v5, .int .i64 a0_c.Leak, .int .i64 a0_c.Energy]].toArray w (Ret fun u w2 => u = .bool r ∧ Ext w w2) := by
  refine calls_of Tryz.func12 rfl Tryz.ntmps12 ?_
  have he0 : Ext w w := Ext.refl w
  unfold F_spec_IsCell at hF
  refine WC.seq ?_
  refine WC.region ?_
  refine TL.eff rfl rfl (eff_box rfl rfl) ?_
  rintro _ w8 ⟨b7, rfl, hn9⟩
  obtain ⟨hn9e, hn9s, hn9x, hb10⟩ := hn9
  have hb10 : Box w8 b7 [.string a0_c.Name, .int .i64 a0_c.Kind, v1, v3, v5, .int .i64 a0_c.Leak, .int .i64 a0_c.Energy] 32 := hb10
  have he12 : Ext w w8 := Ext.trans he0 hn9x
  have hz13 := (hn9x).size
  have hlo11 : w.heap.size ≤ b7 := by rw [hn9e]; exact (he0).size
  refine TL.yld rfl rfl (yld_assign rfl rfl) ?_
  refine TL.done ?_
  refine NX.seq ?_
  refine WC.seq ?_
  refine WC.region ?_
  refine TL.yld rfl rfl (yld_loadN (us := [.string a0_c.Name, .int .i64 a0_c.Kind, v1, v3, v5, .int .i64 a0_c.Leak, .int .i64 a0_c.Energy]) rfl ag_32 rfl (Box.cells hb10) cn_32) ?_
  obtain ⟨r14, hr15, hF⟩ := bsome hF
  refine TL.eff rfl rfl (eff_call rfl gf_26 rfl (W_spec_l03Pins hr15 ((slRep.old ha2 he12 (Nat.le_refl _)).wide (Nat.le_refl _) (he12).size) ((slRep.old ha4 he12 (Nat.le_refl _)).wide (Nat.le_refl _) (he12).size) ((slRep.old ha6 he12 (Nat.le_refl _)).wide (Nat.le_refl _) (he12).size))) ?_
  rintro _ w16 ⟨rfl, hx17⟩
  have he18 : Ext w w16 := Ext.trans he12 hx17
  have hb10 := Box.ext hb10 hx17
  have hz19 := (hx17).size
  refine TL.yld rfl rfl (yld_move rfl rfl) ?_
  refine TL.yld rfl rfl (yld_extract rfl rfl rfl) ?_
  refine TL.yld rfl rfl (yld_extract rfl rfl rfl) ?_
  refine TL.yld rfl rfl (yld_assign rfl rfl) ?_
  refine TL.yld rfl rfl (yld_assign rfl rfl) ?_
  refine TL.done ?_
  refine NX.seq ?_
  refine WC.seq ?_
  refine WC.seq ?_
  refine WC.region ?_
  refine TL.yld rfl rfl (yld_move rfl rfl) ?_
  refine TL.yld rfl rfl (yld_not rfl rfl) ?_
  refine TL.yld rfl rfl (yld_move rfl rfl) ?_
  obtain ⟨c20, hb21, hF⟩ := bsome hF
  refine TL.cut 5 [(1, .pointer (some ⟨b7, 0, none⟩)), (3, .int .i64 r14.1), (22, .bool c20)] (fun w' => Ext w16 w') ?_ ?_
  · rcases Bool.eq_false_or_eq_true (!r14.2) with hg22 | hg22
    ·
      rw [hg22] at hb21; simp only [cond_true, cond_false] at hb21
      refine TL.gnu (j := 2) (t := 17) rfl rfl rfl hg22 rfl ?_
      refine TL.gnu (j := 2) (t := 17) rfl rfl rfl hg22 rfl ?_
      refine TL.gnu (j := 2) (t := 17) rfl rfl rfl hg22 rfl ?_
      refine TL.gnu (j := 2) (t := 17) rfl rfl rfl hg22 rfl ?_
      obtain rfl := Option.some.inj hb21
      refine TL.yld rfl rfl (yld_pick_t rfl rfl hg22 rfl) ?_
      exact TL.nil fun a h => ⟨h.weaken ⟨rfl, rfl, rfl, trivial⟩, Ext.refl _⟩
    ·
      rw [hg22] at hb21; simp only [cond_true, cond_false] at hb21
      replace hF := hb21
      refine TL.gy (j := 2) (t := 17) rfl rfl rfl hg22 rfl (yld_fieldAddr rfl fo_32_0 rfl) ?_
      refine TL.gy (j := 2) (t := 17) rfl rfl rfl hg22 rfl (yld_load1 0 rfl ag_9 rfl (Box.cells hb10) rfl rfl) ?_
      obtain ⟨r23, hr24, hF⟩ := bsome hF
      refine TL.ge (j := 2) (t := 17) rfl rfl rfl hg22 rfl (eff_call rfl gf_27 rfl (W_spec_l03Name hr24)) ?_
      rintro _ w25 ⟨rfl, hx26⟩
      have hb10 := Box.ext hb10 hx26
      have hz28 := (hx26).size
      refine TL.gy (j := 2) (t := 17) rfl rfl rfl hg22 rfl (yld_not rfl rfl) ?_
      obtain rfl := Option.some.inj hF
      refine TL.yld rfl rfl (yld_pick_f rfl rfl hg22 rfl) ?_
      exact TL.nil fun a h => ⟨h.weaken ⟨rfl, rfl, rfl, trivial⟩, hx26⟩
  intro w29 hx30
  have he31 : Ext w w29 := Ext.trans he18 hx30
  have hb10 := Box.ext hb10 hx30
  have hz32 := (hx30).size
  refine TL.yld rfl rfl (yld_move rfl rfl) ?_
  refine TL.cut 5 [(1, .pointer (some ⟨b7, 0, none⟩)), (3, .int .i64 r14.1), (28, .bool ((c20 || (decide ((a0_c.Arcs.length : Int) > 8)))))] (fun w' => Ext w29 w') ?_ ?_
  · rcases Bool.eq_false_or_eq_true c20 with hg33 | hg33
    ·
      refine TL.gnu (j := 8) (t := 23) rfl rfl rfl hg33 rfl ?_
      refine TL.gnu (j := 8) (t := 23) rfl rfl rfl hg33 rfl ?_
      refine TL.gnu (j := 8) (t := 23) rfl rfl rfl hg33 rfl ?_
      refine TL.gnu (j := 8) (t := 23) rfl rfl rfl hg33 rfl ?_
      refine TL.yld rfl rfl (yld_or_t (b2 := decide ((a0_c.Arcs.length : Int) > 8)) rfl rfl hg33 rfl) ?_
      exact TL.nil fun a h => ⟨h.weaken ⟨rfl, rfl, rfl, trivial⟩, Ext.refl _⟩
    ·
      refine TL.gy (j := 8) (t := 23) rfl rfl rfl hg33 rfl (yld_fieldAddr rfl fo_32_3 rfl) ?_
      refine TL.gy (j := 8) (t := 23) rfl rfl rfl hg33 rfl (yld_load1 3 rfl ag_30 rfl (Box.cells hb10) rfl rfl) ?_
      refine TL.gy (j := 8) (t := 23) rfl rfl rfl hg33 rfl (ye_len (c := C_Arc) rfl Tryz.underlying30 rfl (slRep.old ha4 he31 (Nat.le_refl _))) ?_
      refine TL.gy (j := 8) (t := 23) rfl rfl rfl hg33 rfl (yld_gtr rfl rfl rfl) ?_
      refine TL.yld rfl rfl (yld_or_f rfl rfl hg33 rfl) ?_
      exact TL.nil fun a h => ⟨h.weaken ⟨rfl, rfl, rfl, trivial⟩, Ext.refl _⟩
  intro w34 hx35
  have he36 : Ext w w34 := Ext.trans he31 hx35
  have hb10 := Box.ext hb10 hx35
  have hz37 := (hx35).size
  refine TL.yld rfl rfl (yld_move rfl rfl) ?_
  obtain ⟨c38, hb39, hF⟩ := bsome hF
  refine TL.cut 5 [(1, .pointer (some ⟨b7, 0, none⟩)), (3, .int .i64 r14.1), (34, .bool c38)] (fun w' => Ext w34 w') ?_ ?_
  · rcases Bool.eq_false_or_eq_true ((c20 || (decide ((a0_c.Arcs.length : Int) > 8)))) with hg40 | hg40
    ·
      rw [hg40] at hb39; simp only [cond_true, cond_false] at hb39
      refine TL.gnu (j := 14) (t := 29) rfl rfl rfl hg40 rfl ?_
      refine TL.gnu (j := 14) (t := 29) rfl rfl rfl hg40 rfl ?_
      refine TL.gnu (j := 14) (t := 29) rfl rfl rfl hg40 rfl ?_
      refine TL.gnu (j := 14) (t := 29) rfl rfl rfl hg40 rfl ?_
      obtain rfl := Option.some.inj hb39
      refine TL.yld rfl rfl (yld_pick_t rfl rfl hg40 rfl) ?_
      exact TL.nil fun a h => ⟨h.weaken ⟨rfl, rfl, rfl, trivial⟩, Ext.refl _⟩
    ·
      rw [hg40] at hb39; simp only [cond_true, cond_false] at hb39
      replace hF := hb39
      refine TL.gy (j := 14) (t := 29) rfl rfl rfl hg40 rfl (yld_fieldAddr rfl fo_32_5 rfl) ?_
      refine TL.gy (j := 14) (t := 29) rfl rfl rfl hg40 rfl (yld_load1 5 rfl ag_2 rfl (Box.cells hb10) rfl rfl) ?_
      obtain ⟨r41, hr42, hF⟩ := bsome hF
      refine TL.ge (j := 14) (t := 29) rfl rfl rfl hg40 rfl (eff_call rfl gf_28 rfl (W_spec_l01In hr42)) ?_
      rintro _ w43 ⟨rfl, hx44⟩
      have hb10 := Box.ext hb10 hx44
      have hz46 := (hx44).size
      refine TL.gy (j := 14) (t := 29) rfl rfl rfl hg40 rfl (yld_not rfl rfl) ?_
      obtain rfl := Option.some.inj hF
      refine TL.yld rfl rfl (yld_pick_f rfl rfl hg40 rfl) ?_
      exact TL.nil fun a h => ⟨h.weaken ⟨rfl, rfl, rfl, trivial⟩, hx44⟩
  intro w47 hx48
  have he49 : Ext w w47 := Ext.trans he36 hx48
  have hb10 := Box.ext hb10 hx48
  have hz50 := (hx48).size
  refine TL.yld rfl rfl (yld_move rfl rfl) ?_
  obtain ⟨c51, hb52, hF⟩ := bsome hF
  refine TL.cut 5 [(1, .pointer (some ⟨b7, 0, none⟩)), (3, .int .i64 r14.1), (40, .bool c51)] (fun w' => Ext w47 w') ?_ ?_
  · rcases Bool.eq_false_or_eq_true c38 with hg53 | hg53
    ·
      rw [hg53] at hb52; simp only [cond_true, cond_false] at hb52
      refine TL.gnu (j := 20) (t := 35) rfl rfl rfl hg53 rfl ?_
      refine TL.gnu (j := 20) (t := 35) rfl rfl rfl hg53 rfl ?_
      refine TL.gnu (j := 20) (t := 35) rfl rfl rfl hg53 rfl ?_
      refine TL.gnu (j := 20) (t := 35) rfl rfl rfl hg53 rfl ?_
      obtain rfl := Option.some.inj hb52
      refine TL.yld rfl rfl (yld_pick_t rfl rfl hg53 rfl) ?_
      exact TL.nil fun a h => ⟨h.weaken ⟨rfl, rfl, rfl, trivial⟩, Ext.refl _⟩
    ·
      rw [hg53] at hb52; simp only [cond_true, cond_false] at hb52
      replace hF := hb52
      refine TL.gy (j := 20) (t := 35) rfl rfl rfl hg53 rfl (yld_fieldAddr rfl fo_32_6 rfl) ?_
      refine TL.gy (j := 20) (t := 35) rfl rfl rfl hg53 rfl (yld_load1 6 rfl ag_2 rfl (Box.cells hb10) rfl rfl) ?_
      obtain ⟨r54, hr55, hF⟩ := bsome hF
      refine TL.ge (j := 20) (t := 35) rfl rfl rfl hg53 rfl (eff_call rfl gf_28 rfl (W_spec_l01In hr55)) ?_
      rintro _ w56 ⟨rfl, hx57⟩
      have hb10 := Box.ext hb10 hx57
      have hz59 := (hx57).size
      refine TL.gy (j := 20) (t := 35) rfl rfl rfl hg53 rfl (yld_not rfl rfl) ?_
      obtain rfl := Option.some.inj hF
      refine TL.yld rfl rfl (yld_pick_f rfl rfl hg53 rfl) ?_
      exact TL.nil fun a h => ⟨h.weaken ⟨rfl, rfl, rfl, trivial⟩, hx57⟩
  intro w60 hx61
  have he62 : Ext w w60 := Ext.trans he49 hx61
  have hb10 := Box.ext hb10 hx61
  have hz63 := (hx61).size
  refine TL.done ?_
  refine NX.seq ?_
  refine WC.cond rfl ?_ ?_
  · intro hc64
    replace hF := bif_t hc64 hF
    refine WC.seq ?_
    refine WC.region ?_
    refine TL.yld rfl rfl (yld_assign rfl rfl) ?_
    refine TL.done ?_
    refine NX.seq ?_
    refine WC.ret' ?_
    refine NX.then_r ?_
    obtain rfl := Option.some.inj hF
    exact NX.end (rs := [.tmp 2]) (vs := [.bool false]) rfl ⟨rfl, trivial⟩ ⟨_, rfl, rfl, he62⟩
  · intro hc65
    replace hF := bif_f hc65 hF
    refine WC.skip' ?_
    refine NX.seq ?_
    refine WC.seq ?_
    refine WC.seq ?_
    refine WC.region ?_
    refine TL.yld rfl rfl (yld_assign rfl rfl) ?_
    refine TL.done ?_
    refine NX.seq ?_
    refine WC.block ?_
    refine WC.loop (fun m70 a wl => ∃ (i68 : Int), Kn 182 [(1, .pointer (some ⟨b7, 0, none⟩)), (3, .int .i64 r14.1), (5, .int .i64 i68)] a ∧ Ext w wl ∧ w60.heap.size ≤ wl.heap.size ∧ Box wl b7 [.string a0_c.Name, .int .i64 a0_c.Kind, v1, v3, v5, .int .i64 a0_c.Leak, .int .i64 a0_c.Energy] 32 ∧ F_spec_IsCell_L1 n a0_c (fun i68 => (Option.bind (F_spec_l03Kinds n a0_c) fun r70 => (bif (a0_c.Kind == 1) then (F_spec_IsCell_L3 n a0_c (fun i83 => (Option.bind (bif (r14.1 == 0) then (bif decide (IntKind.wrap IntKind.u64 (IntKind.wrap IntKind.i64 (((a0_c.Pins.length : Int)) - 1)) < 0) then none else (some ((((a0_c.Truth.length : Int)) == (shlK .i64 1 (IntKind.wrap IntKind.u64 (IntKind.wrap IntKind.i64 (((a0_c.Pins.length : Int)) - 1)))))))) else (some false)) fun c85 => (some c85))) n 0) else (bif (a0_c.Kind == 2) then (Option.bind (bif (r14.1 == 1) then (Option.bind (getI r70 1) fun x115 => (some ((x115 == 0)))) else (some false)) fun c115 => (Option.bind (bif c115 then (Option.bind (getI r70 2) fun x125 => (Option.bind (getI r70 3) fun x132 => (some (((decide (x125 > 0)) != (decide (x132 > 0))))))) else (some false)) fun c125 => (some ((c125 && ((((a0_c.Truth.length : Int)) == 0))))))) else (bif (a0_c.Kind == 3) then (Option.bind (bif (r14.1 == 1) then (Option.bind (getI r70 1) fun x149 => (some (decide (x149 > 0)))) else (some false)) fun c149 => (Option.bind (bif c149 then (Option.bind (getI r70 2) fun x163 => (some (decide (x163 > 0)))) else (some false)) fun c163 => (Option.bind (bif c163 then (Option.bind (getI r70 3) fun x177 => (some ((x177 == 0)))) else (some false)) fun c177 => (some ((c177 && ((((a0_c.Truth.length : Int)) == 0)))))))) else (some false)))))) m70 i68 = some r) n ?_ ?_
    · intro a hK; exact ⟨0, hK.weaken ⟨rfl, rfl, rfl, trivial⟩, he62, Nat.le_refl _, hb10, hF⟩
    · rintro m70 a w66 ⟨i68, hK, he67, hz71, hb69, hF⟩
      revert hK; revert a; refine (?_ : WC _ _ _ _ _ _)
      cases m70 with
      | zero => rw [F_spec_IsCell_L1_z] at hF; cases hF
      | succ m70 =>
        rw [F_spec_IsCell_L1_s] at hF
        refine WC.seq ?_
        refine WC.seq ?_
        refine WC.region ?_
        refine TL.yld rfl rfl (yld_move rfl rfl) ?_
        refine TL.yld rfl rfl (yld_fieldAddr rfl fo_32_3 rfl) ?_
        refine TL.yld rfl rfl (yld_load1 3 rfl ag_30 rfl (Box.cells hb69) rfl rfl) ?_
        refine TL.yld rfl rfl (ye_len (c := C_Arc) rfl Tryz.underlying30 rfl (slRep.old ha4 he67 (Nat.le_refl _))) ?_
        refine TL.yld rfl rfl (yld_lss rfl rfl rfl) ?_
        refine TL.done ?_
        refine NX.seq ?_
        refine WC.cond rfl ?_ ?_
        · intro hc72
          replace hF := bif_t hc72 hF
          refine WC.skip' ?_
          refine NX.seq ?_
          refine WC.seq ?_
          refine WC.block ?_
          refine WC.seq ?_
          refine WC.region ?_
          refine TL.yld rfl rfl (yld_fieldAddr rfl fo_32_3 rfl) ?_
          refine TL.yld rfl rfl (yld_load1 3 rfl ag_30 rfl (Box.cells hb69) rfl rfl) ?_
          refine TL.yld rfl rfl (yld_move rfl rfl) ?_
          obtain ⟨x73, hy74, hF⟩ := bsome hF
          refine TL.ye rfl rfl (ye_index (c := C_Arc) rfl Tryz.underlying30 cn_62 rfl rfl (slRep.old ha4 he67 (Nat.le_refl _)) hy74) ?_
          rintro _ ⟨b75, o76, us77, rfl, hib80, hr78, hcl79⟩
          have hib80 : 0 ≤ b75 ∧ b75 < w.heap.size := ⟨hib80.1, by have := hib80.2; omega⟩
          obtain ⟨v81, v82, rfl, hs83, hs84⟩ := C_Arc_open hr78
          refine TL.yld rfl rfl (yld_loadN (us := [.int .i64 x73.Kind, .int .i64 x73.From, .int .i64 x73.To, .int .i64 x73.Sense, v81, v82]) rfl ag_62 rfl hcl79 cn_62) ?_
          refine TL.eff rfl rfl (eff_alloc rfl zn_62) ?_
          rintro _ w86 ⟨b85, rfl, hn87⟩
          obtain ⟨hn87e, hn87s, hn87x, hb88⟩ := hn87
          have hb88 : Box w86 b85 [.int .i64 0, .int .i64 0, .int .i64 0, .int .i64 0, .slice none 0 0, .slice none 0 0] 62 := hb88
          have he90 : Ext w w86 := Ext.trans he67 hn87x
          have hb69 := Box.ext hb69 hn87x
          have hs83 := slRep.old hs83 hn87x (by omega)
          have hs84 := slRep.old hs84 hn87x (by omega)
          have hz91 := (hn87x).size
          have hlo89 : w.heap.size ≤ b85 := by rw [hn87e]; exact (he67).size
          refine TL.eff rfl rfl (eff_store rfl rfl rfl hb88 cn_62 (allc_cons rfl (allc_cons rfl (allc_cons rfl (allc_cons rfl (allc_cons (slRep.one hs83) (allc_cons (slRep.one hs84) allc_nil)))))) rfl) ?_
          rintro _ w92 ⟨hu93, hb94⟩
          have he95 : Ext w w92 := Below.trans he90 (Upd.below hu93 (by omega))
          have hb69 := Box.upd hb69 hu93 (by omega)
          have hs83 := slRep.upd hs83 hu93 (by omega)
          have hs84 := slRep.upd hs84 hu93 (by omega)
          have hz96 := (hu93).size
          have hb88 : Box w92 b85 [.int .i64 x73.Kind, .int .i64 x73.From, .int .i64 x73.To, .int .i64 x73.Sense, v81, v82] 62 := hb94
          refine TL.done ?_
          refine NX.seq ?_
          refine WC.seq ?_
          refine WC.seq ?_
          refine WC.region ?_
          refine TL.yld rfl rfl (yld_loadN (us := [.string a0_c.Name, .int .i64 a0_c.Kind, v1, v3, v5, .int .i64 a0_c.Leak, .int .i64 a0_c.Energy]) rfl ag_32 rfl (Box.cells hb69) cn_32) ?_
          refine TL.yld rfl rfl (yld_loadN (us := [.int .i64 x73.Kind, .int .i64 x73.From, .int .i64 x73.To, .int .i64 x73.Sense, v81, v82]) rfl ag_62 rfl (Box.cells hb88) cn_62) ?_
          obtain ⟨r97, hr98, hF⟩ := bsome hF
          refine TL.eff rfl rfl (eff_call rfl gf_29 rfl (W_spec_l03Arc hr98 ((slRep.old ha2 he95 (Nat.le_refl _)).wide (Nat.le_refl _) (he95).size) ((slRep.old ha4 he95 (Nat.le_refl _)).wide (Nat.le_refl _) (he95).size) ((slRep.old ha6 he95 (Nat.le_refl _)).wide (Nat.le_refl _) (he95).size) (hs83.wide (Nat.zero_le _) (by omega)) (hs84.wide (Nat.zero_le _) (by omega)))) ?_
          rintro _ w99 ⟨rfl, hx100⟩
          have he101 : Ext w w99 := Ext.trans he95 hx100
          have hb69 := Box.ext hb69 hx100
          have hb88 := Box.ext hb88 hx100
          have hs83 := slRep.old hs83 hx100 (by omega)
          have hs84 := slRep.old hs84 hx100 (by omega)
          have hz102 := (hx100).size
          refine TL.yld rfl rfl (yld_not rfl rfl) ?_
          refine TL.done ?_
          refine NX.seq ?_
          refine WC.cond rfl ?_ ?_
          · intro hc103
            replace hF := bif_t hc103 hF
            refine WC.seq ?_
            refine WC.region ?_
            refine TL.yld rfl rfl (yld_assign rfl rfl) ?_
            refine TL.done ?_
            refine NX.seq ?_
            refine WC.ret' ?_
            refine NX.then_r ?_
            refine NX.blk_r ?_
            refine NX.then_r ?_
            refine NX.then_r ?_
            refine NX.blk_r ?_
            refine NX.then_r ?_
            obtain rfl := Option.some.inj hF
            exact NX.end (rs := [.tmp 2]) (vs := [.bool false]) rfl ⟨rfl, trivial⟩ ⟨_, rfl, rfl, he101⟩
          · intro hc104
            replace hF := bif_f hc104 hF
            refine WC.skip' ?_
            refine NX.seq ?_
            refine WC.seq ?_
            refine WC.region ?_
            refine TL.yld rfl rfl (yld_assign rfl rfl) ?_
            refine TL.done ?_
            refine NX.seq ?_
            refine WC.block ?_
            refine WC.loop (fun m112 a wl => ∃ (i107 : Int), Kn 182 [(1, .pointer (some ⟨b7, 0, none⟩)), (3, .int .i64 r14.1), (5, .int .i64 i68), (6, .pointer (some ⟨b85, 0, none⟩)), (7, .int .i64 i107)] a ∧ Ext w wl ∧ w99.heap.size ≤ wl.heap.size ∧ Box wl b7 [.string a0_c.Name, .int .i64 a0_c.Kind, v1, v3, v5, .int .i64 a0_c.Leak, .int .i64 a0_c.Energy] 32 ∧ Box wl b85 [.int .i64 x73.Kind, .int .i64 x73.From, .int .i64 x73.To, .int .i64 x73.Sense, v81, v82] 62 ∧ slRep C_Table wl (Iv 0 w.heap.size) x73.Delay v81 ∧ slRep C_Table wl (Iv 0 w.heap.size) x73.Slew v82 ∧ F_spec_IsCell_L2 a0_c i68 x73 (fun i107 => (F_spec_IsCell_L1 n a0_c (fun i68 => (Option.bind (F_spec_l03Kinds n a0_c) fun r70 => (bif (a0_c.Kind == 1) then (F_spec_IsCell_L3 n a0_c (fun i83 => (Option.bind (bif (r14.1 == 0) then (bif decide (IntKind.wrap IntKind.u64 (IntKind.wrap IntKind.i64 (((a0_c.Pins.length : Int)) - 1)) < 0) then none else (some ((((a0_c.Truth.length : Int)) == (shlK .i64 1 (IntKind.wrap IntKind.u64 (IntKind.wrap IntKind.i64 (((a0_c.Pins.length : Int)) - 1)))))))) else (some false)) fun c85 => (some c85))) n 0) else (bif (a0_c.Kind == 2) then (Option.bind (bif (r14.1 == 1) then (Option.bind (getI r70 1) fun x115 => (some ((x115 == 0)))) else (some false)) fun c115 => (Option.bind (bif c115 then (Option.bind (getI r70 2) fun x125 => (Option.bind (getI r70 3) fun x132 => (some (((decide (x125 > 0)) != (decide (x132 > 0))))))) else (some false)) fun c125 => (some ((c125 && ((((a0_c.Truth.length : Int)) == 0))))))) else (bif (a0_c.Kind == 3) then (Option.bind (bif (r14.1 == 1) then (Option.bind (getI r70 1) fun x149 => (some (decide (x149 > 0)))) else (some false)) fun c149 => (Option.bind (bif c149 then (Option.bind (getI r70 2) fun x163 => (some (decide (x163 > 0)))) else (some false)) fun c163 => (Option.bind (bif c163 then (Option.bind (getI r70 3) fun x177 => (some ((x177 == 0)))) else (some false)) fun c177 => (some ((c177 && ((((a0_c.Truth.length : Int)) == 0)))))))) else (some false)))))) m70 (IntKind.wrap IntKind.i64 (i68 + 1)))) m112 i107 = some r) n ?_ ?_
            · intro a hK; exact ⟨0, hK.weaken ⟨rfl, rfl, rfl, rfl, rfl, trivial⟩, he101, Nat.le_refl _, hb69, hb88, hs83, hs84, hF⟩
            · rintro m112 a w105 ⟨i107, hK, he106, hz113, hb108, hb109, hs110, hs111, hF⟩
              revert hK; revert a; refine (?_ : WC _ _ _ _ _ _)
              cases m112 with
              | zero => rw [F_spec_IsCell_L2_z] at hF; cases hF
              | succ m112 =>
                rw [F_spec_IsCell_L2_s] at hF
                refine WC.seq ?_
                refine WC.seq ?_
                refine WC.region ?_
                refine TL.yld rfl rfl (yld_move rfl rfl) ?_
                refine TL.yld rfl rfl (yld_move rfl rfl) ?_
                refine TL.yld rfl rfl (yld_lss rfl rfl rfl) ?_
                refine TL.done ?_
                refine NX.seq ?_
                refine WC.cond rfl ?_ ?_
                · intro hc114
                  replace hF := bif_t hc114 hF
                  refine WC.skip' ?_
                  refine NX.seq ?_
                  refine WC.seq ?_
                  refine WC.block ?_
                  refine WC.seq ?_
                  refine WC.quiet Tryz.hm (by kernel_rfl) ?_
                  refine QL.yld rfl rfl (Yld.qui (yld_fieldAddr rfl fo_32_3 rfl)) ?_
                  refine QL.yld rfl rfl (Yld.qui (yld_load1 3 rfl ag_30 rfl (Box.cells hb108) rfl rfl)) ?_
                  refine QL.yld rfl rfl (Yld.qui (yld_move rfl rfl)) ?_
                  obtain ⟨x115, hy116, hF⟩ := bsome hF
                  refine QL.ye rfl rfl (ye_index (c := C_Arc) rfl Tryz.underlying30 cn_62 rfl rfl (slRep.old ha4 he106 (Nat.le_refl _)) hy116) ?_
                  rintro _ ⟨b117, o118, us119, rfl, hib122, hr120, hcl121⟩
                  have hib122 : 0 ≤ b117 ∧ b117 < w.heap.size := ⟨hib122.1, by have := hib122.2; omega⟩
                  obtain ⟨v123, v124, rfl, hs125, hs126⟩ := C_Arc_open hr120
                  refine QL.yld rfl rfl (Yld.qui (yld_fieldAddr rfl fo_62_0 rfl)) ?_
                  refine QL.yld rfl rfl (Yld.qui (yld_load1 0 rfl ag_2 rfl hcl121 rfl rfl)) ?_
                  refine QL.yld rfl rfl (Yld.qui (yld_fieldAddr rfl fo_62_0 rfl)) ?_
                  refine QL.yld rfl rfl (Yld.qui (yld_load1 0 rfl ag_2 rfl (Box.cells hb109) rfl rfl)) ?_
                  refine QL.yld rfl rfl (Yld.qui (yld_eql rfl rfl rfl)) ?_
                  refine QL.yld rfl rfl (Yld.qui (yld_move rfl rfl)) ?_
                  obtain ⟨c127, hb128, hF⟩ := bsome hF
                  refine QL.cut 10 [(1, .pointer (some ⟨b7, 0, none⟩)), (3, .int .i64 r14.1), (5, .int .i64 i68), (6, .pointer (some ⟨b85, 0, none⟩)), (7, .int .i64 i107), (81, .bool c127)] ?_ ?_
                  · rcases Bool.eq_false_or_eq_true ((x115.Kind == x73.Kind)) with hg129 | hg129
                    ·
                      rw [hg129] at hb128; simp only [cond_true, cond_false] at hb128
                      replace hF := hb128
                      refine QL.gy (j := 9) (t := 71) rfl rfl rfl hg129 rfl (Yld.qui (yld_fieldAddr rfl fo_32_3 rfl)) ?_
                      refine QL.gy (j := 9) (t := 71) rfl rfl rfl hg129 rfl (Yld.qui (yld_load1 3 rfl ag_30 rfl (Box.cells hb108) rfl rfl)) ?_
                      refine QL.gy (j := 9) (t := 71) rfl rfl rfl hg129 rfl (Yld.qui (yld_move rfl rfl)) ?_
                      obtain ⟨x130, hy131, hF⟩ := bsome hF
                      refine QL.yeg (j := 9) (t := 71) rfl rfl rfl hg129 rfl (ye_index (c := C_Arc) rfl Tryz.underlying30 cn_62 rfl rfl (slRep.old ha4 he106 (Nat.le_refl _)) hy131) ?_
                      rintro _ ⟨b132, o133, us134, rfl, hib137, hr135, hcl136⟩
                      have hib137 : 0 ≤ b132 ∧ b132 < w.heap.size := ⟨hib137.1, by have := hib137.2; omega⟩
                      obtain ⟨v138, v139, rfl, hs140, hs141⟩ := C_Arc_open hr135
                      refine QL.gy (j := 9) (t := 71) rfl rfl rfl hg129 rfl (Yld.qui (yld_fieldAddr rfl fo_62_1 rfl)) ?_
                      refine QL.gy (j := 9) (t := 71) rfl rfl rfl hg129 rfl (Yld.qui (yld_load1 1 rfl ag_2 rfl hcl136 rfl rfl)) ?_
                      refine QL.gy (j := 9) (t := 71) rfl rfl rfl hg129 rfl (Yld.qui (yld_fieldAddr rfl fo_62_1 rfl)) ?_
                      refine QL.gy (j := 9) (t := 71) rfl rfl rfl hg129 rfl (Yld.qui (yld_load1 1 rfl ag_2 rfl (Box.cells hb109) rfl rfl)) ?_
                      refine QL.gy (j := 9) (t := 71) rfl rfl rfl hg129 rfl (Yld.qui (yld_eql rfl rfl rfl)) ?_
                      obtain rfl := Option.some.inj hF
                      refine QL.yld rfl rfl (Yld.qui (yld_pick_t rfl rfl hg129 rfl)) ?_
                      exact QL.nil fun a h => h.weaken ⟨rfl, rfl, rfl, rfl, rfl, rfl, trivial⟩
                    ·
                      rw [hg129] at hb128; simp only [cond_true, cond_false] at hb128
                      refine QL.gnu (j := 9) (t := 71) rfl rfl rfl hg129 rfl ?_
                      refine QL.gnu (j := 9) (t := 71) rfl rfl rfl hg129 rfl ?_
                      refine QL.gnu (j := 9) (t := 71) rfl rfl rfl hg129 rfl ?_
                      refine QL.gnu (j := 9) (t := 71) rfl rfl rfl hg129 rfl ?_
                      refine QL.gnu (j := 9) (t := 71) rfl rfl rfl hg129 rfl ?_
                      refine QL.gnu (j := 9) (t := 71) rfl rfl rfl hg129 rfl ?_
                      refine QL.gnu (j := 9) (t := 71) rfl rfl rfl hg129 rfl ?_
                      refine QL.gnu (j := 9) (t := 71) rfl rfl rfl hg129 rfl ?_
                      refine QL.gnu (j := 9) (t := 71) rfl rfl rfl hg129 rfl ?_
                      obtain rfl := Option.some.inj hb128
                      refine QL.yld rfl rfl (Yld.qui (yld_pick_f rfl rfl hg129 rfl)) ?_
                      exact QL.nil fun a h => h.weaken ⟨rfl, rfl, rfl, rfl, rfl, rfl, trivial⟩
                  refine QL.yld rfl rfl (Yld.qui (yld_move rfl rfl)) ?_
                  obtain ⟨c142, hb143, hF⟩ := bsome hF
                  refine QL.cut 10 [(1, .pointer (some ⟨b7, 0, none⟩)), (3, .int .i64 r14.1), (5, .int .i64 i68), (6, .pointer (some ⟨b85, 0, none⟩)), (7, .int .i64 i107), (92, .bool c142)] ?_ ?_
                  · rcases Bool.eq_false_or_eq_true c127 with hg144 | hg144
                    ·
                      rw [hg144] at hb143; simp only [cond_true, cond_false] at hb143
                      replace hF := hb143
                      refine QL.gy (j := 20) (t := 82) rfl rfl rfl hg144 rfl (Yld.qui (yld_fieldAddr rfl fo_32_3 rfl)) ?_
                      refine QL.gy (j := 20) (t := 82) rfl rfl rfl hg144 rfl (Yld.qui (yld_load1 3 rfl ag_30 rfl (Box.cells hb108) rfl rfl)) ?_
                      refine QL.gy (j := 20) (t := 82) rfl rfl rfl hg144 rfl (Yld.qui (yld_move rfl rfl)) ?_
                      obtain ⟨x145, hy146, hF⟩ := bsome hF
                      refine QL.yeg (j := 20) (t := 82) rfl rfl rfl hg144 rfl (ye_index (c := C_Arc) rfl Tryz.underlying30 cn_62 rfl rfl (slRep.old ha4 he106 (Nat.le_refl _)) hy146) ?_
                      rintro _ ⟨b147, o148, us149, rfl, hib152, hr150, hcl151⟩
                      have hib152 : 0 ≤ b147 ∧ b147 < w.heap.size := ⟨hib152.1, by have := hib152.2; omega⟩
                      obtain ⟨v153, v154, rfl, hs155, hs156⟩ := C_Arc_open hr150
                      refine QL.gy (j := 20) (t := 82) rfl rfl rfl hg144 rfl (Yld.qui (yld_fieldAddr rfl fo_62_2 rfl)) ?_
                      refine QL.gy (j := 20) (t := 82) rfl rfl rfl hg144 rfl (Yld.qui (yld_load1 2 rfl ag_2 rfl hcl151 rfl rfl)) ?_
                      refine QL.gy (j := 20) (t := 82) rfl rfl rfl hg144 rfl (Yld.qui (yld_fieldAddr rfl fo_62_2 rfl)) ?_
                      refine QL.gy (j := 20) (t := 82) rfl rfl rfl hg144 rfl (Yld.qui (yld_load1 2 rfl ag_2 rfl (Box.cells hb109) rfl rfl)) ?_
                      refine QL.gy (j := 20) (t := 82) rfl rfl rfl hg144 rfl (Yld.qui (yld_eql rfl rfl rfl)) ?_
                      obtain rfl := Option.some.inj hF
                      refine QL.yld rfl rfl (Yld.qui (yld_pick_t rfl rfl hg144 rfl)) ?_
                      exact QL.nil fun a h => h.weaken ⟨rfl, rfl, rfl, rfl, rfl, rfl, trivial⟩
                    ·
                      rw [hg144] at hb143; simp only [cond_true, cond_false] at hb143
                      refine QL.gnu (j := 20) (t := 82) rfl rfl rfl hg144 rfl ?_
                      refine QL.gnu (j := 20) (t := 82) rfl rfl rfl hg144 rfl ?_
                      refine QL.gnu (j := 20) (t := 82) rfl rfl rfl hg144 rfl ?_
                      refine QL.gnu (j := 20) (t := 82) rfl rfl rfl hg144 rfl ?_
                      refine QL.gnu (j := 20) (t := 82) rfl rfl rfl hg144 rfl ?_
                      refine QL.gnu (j := 20) (t := 82) rfl rfl rfl hg144 rfl ?_
                      refine QL.gnu (j := 20) (t := 82) rfl rfl rfl hg144 rfl ?_
                      refine QL.gnu (j := 20) (t := 82) rfl rfl rfl hg144 rfl ?_
                      refine QL.gnu (j := 20) (t := 82) rfl rfl rfl hg144 rfl ?_
                      obtain rfl := Option.some.inj hb143
                      refine QL.yld rfl rfl (Yld.qui (yld_pick_f rfl rfl hg144 rfl)) ?_
                      exact QL.nil fun a h => h.weaken ⟨rfl, rfl, rfl, rfl, rfl, rfl, trivial⟩
                  refine QL.done fun w157 hx158 => ?_
                  have he159 : Ext w w157 := Ext.trans he106 hx158
                  have hb108 := Box.ext hb108 hx158
                  have hb109 := Box.ext hb109 hx158
                  have hs110 := slRep.old hs110 hx158 (by omega)
                  have hs111 := slRep.old hs111 hx158 (by omega)
                  have hz160 := (hx158).size
                  refine NX.seq ?_
                  refine WC.cond rfl ?_ ?_
                  · intro hc161
                    replace hF := bif_t hc161 hF
                    refine WC.seq ?_
                    refine WC.region ?_
                    refine TL.yld rfl rfl (yld_assign rfl rfl) ?_
                    refine TL.done ?_
                    refine NX.seq ?_
                    refine WC.ret' ?_
                    refine NX.blk_r ?_
                    refine NX.then_r ?_
                    refine NX.then_r ?_
                    refine NX.blk_r ?_
                    refine NX.blk_r ?_
                    refine NX.then_r ?_
                    refine NX.then_r ?_
                    refine NX.blk_r ?_
                    refine NX.then_r ?_
                    obtain rfl := Option.some.inj hF
                    exact NX.end (rs := [.tmp 2]) (vs := [.bool false]) rfl ⟨rfl, trivial⟩ ⟨_, rfl, rfl, he159⟩
                  · intro hc162
                    replace hF := bif_f hc162 hF
                    refine WC.skip' ?_
                    refine NX.blk_n ?_
                    refine NX.seq ?_
                    refine WC.region ?_
                    refine TL.yld rfl rfl (yld_move rfl rfl) ?_
                    refine TL.yld rfl rfl (yld_add rfl rfl rfl) ?_
                    refine TL.yld rfl rfl (yld_assign rfl rfl) ?_
                    refine TL.done ?_
                    refine NX.then_n ?_
                    intro a hK; exact ⟨m112, Nat.lt_succ_self m112, (IntKind.wrap IntKind.i64 (i107 + 1)), hK.weaken ⟨rfl, rfl, rfl, rfl, rfl, trivial⟩, he159, (by omega), hb108, hb109, hs110, hs111, hF⟩
                · intro hc163
                  replace hF := bif_f hc163 hF
                  refine WC.exit' ?_
                  refine NX.then_e ?_
                  refine NX.then_e ?_
                  refine NX.blk_hit ?_
                  refine NX.blk_n ?_
                  refine NX.seq ?_
                  refine WC.region ?_
                  refine TL.yld rfl rfl (yld_move rfl rfl) ?_
                  refine TL.yld rfl rfl (yld_add rfl rfl rfl) ?_
                  refine TL.yld rfl rfl (yld_assign rfl rfl) ?_
                  refine TL.done ?_
                  refine NX.then_n ?_
                  intro a hK; exact ⟨m70, Nat.lt_succ_self m70, (IntKind.wrap IntKind.i64 (i68 + 1)), hK.weaken ⟨rfl, rfl, rfl, trivial⟩, he106, (by omega), hb108, hF⟩
        · intro hc164
          replace hF := bif_f hc164 hF
          refine WC.exit' ?_
          refine NX.then_e ?_
          refine NX.then_e ?_
          refine NX.blk_hit ?_
          refine NX.seq ?_
          refine WC.seq ?_
          refine WC.region ?_
          refine TL.yld rfl rfl (yld_loadN (us := [.string a0_c.Name, .int .i64 a0_c.Kind, v1, v3, v5, .int .i64 a0_c.Leak, .int .i64 a0_c.Energy]) rfl ag_32 rfl (Box.cells hb69) cn_32) ?_
          obtain ⟨r165, hr166, hF⟩ := bsome hF
          refine TL.eff rfl rfl (eff_call rfl gf_30 rfl (W_spec_l03Kinds hr166 ((slRep.old ha2 he67 (Nat.le_refl _)).wide (Nat.le_refl _) (he67).size) ((slRep.old ha4 he67 (Nat.le_refl _)).wide (Nat.le_refl _) (he67).size) ((slRep.old ha6 he67 (Nat.le_refl _)).wide (Nat.le_refl _) (he67).size))) ?_
          rintro v169 w167 ⟨_, rfl, hs170, hx168⟩
          have he173 : Ext w w167 := Ext.trans he67 hx168
          have hb69 := Box.ext hb69 hx168
          have hz174 := (hx168).size
          have hbd172 := ownR.blk hs170
          refine TL.yld rfl rfl (yld_assign rfl rfl) ?_
          refine TL.done ?_
          refine NX.seq ?_
          refine WC.seq ?_
          refine WC.seq ?_
          refine WC.region ?_
          refine TL.yld rfl rfl (yld_fieldAddr rfl fo_32_1 rfl) ?_
          refine TL.yld rfl rfl (yld_load1 1 rfl ag_2 rfl (Box.cells hb69) rfl rfl) ?_
          refine TL.done ?_
          refine NX.seq ?_
          refine WC.block ?_
          refine WC.seq ?_
          refine WC.region ?_
          refine TL.yld rfl rfl (yld_eql rfl rfl rfl) ?_
          refine TL.yld rfl rfl (yld_assign rfl rfl) ?_
          refine TL.done ?_
          refine NX.seq ?_
          refine WC.cond rfl ?_ ?_
          · intro hc175
            replace hF := bif_t hc175 hF
            refine WC.seq ?_
            refine WC.seq ?_
            refine WC.region ?_
            refine TL.yld rfl rfl (yld_assign rfl rfl) ?_
            refine TL.done ?_
            refine NX.seq ?_
            refine WC.block ?_
            refine WC.loop (fun m180 a wl => ∃ (i178 : Int), Kn 182 [(1, .pointer (some ⟨b7, 0, none⟩)), (3, .int .i64 r14.1), (9, .int .i64 i178)] a ∧ Ext w wl ∧ w167.heap.size ≤ wl.heap.size ∧ Box wl b7 [.string a0_c.Name, .int .i64 a0_c.Kind, v1, v3, v5, .int .i64 a0_c.Leak, .int .i64 a0_c.Energy] 32 ∧ F_spec_IsCell_L3 n a0_c (fun i178 => (Option.bind (bif (r14.1 == 0) then (bif decide (IntKind.wrap IntKind.u64 (IntKind.wrap IntKind.i64 (((a0_c.Pins.length : Int)) - 1)) < 0) then none else (some ((((a0_c.Truth.length : Int)) == (shlK .i64 1 (IntKind.wrap IntKind.u64 (IntKind.wrap IntKind.i64 (((a0_c.Pins.length : Int)) - 1)))))))) else (some false)) fun c180 => (some c180))) m180 i178 = some r) n ?_ ?_
            · intro a hK; exact ⟨0, hK.weaken ⟨rfl, rfl, rfl, trivial⟩, he173, Nat.le_refl _, hb69, hF⟩
            · rintro m180 a w176 ⟨i178, hK, he177, hz181, hb179, hF⟩
              revert hK; revert a; refine (?_ : WC _ _ _ _ _ _)
              cases m180 with
              | zero => rw [F_spec_IsCell_L3_z] at hF; cases hF
              | succ m180 =>
                rw [F_spec_IsCell_L3_s] at hF
                refine WC.seq ?_
                refine WC.seq ?_
                refine WC.region ?_
                refine TL.yld rfl rfl (yld_move rfl rfl) ?_
                refine TL.yld rfl rfl (yld_fieldAddr rfl fo_32_4 rfl) ?_
                refine TL.yld rfl rfl (yld_load1 4 rfl ag_24 rfl (Box.cells hb179) rfl rfl) ?_
                refine TL.yld rfl rfl (ye_len (c := (cInt .i64)) rfl Tryz.underlying24 rfl (slRep.old ha6 he177 (Nat.le_refl _))) ?_
                refine TL.yld rfl rfl (yld_lss rfl rfl rfl) ?_
                refine TL.done ?_
                refine NX.seq ?_
                refine WC.cond rfl ?_ ?_
                · intro hc182
                  replace hF := bif_t hc182 hF
                  refine WC.skip' ?_
                  refine NX.seq ?_
                  refine WC.seq ?_
                  refine WC.block ?_
                  refine WC.seq ?_
                  refine WC.region ?_
                  refine TL.yld rfl rfl (yld_fieldAddr rfl fo_32_4 rfl) ?_
                  refine TL.yld rfl rfl (yld_load1 4 rfl ag_24 rfl (Box.cells hb179) rfl rfl) ?_
                  refine TL.yld rfl rfl (yld_move rfl rfl) ?_
                  obtain ⟨x183, hy184, hF⟩ := bsome hF
                  refine TL.ye rfl rfl (ye_index (c := (cInt .i64)) rfl Tryz.underlying24 cn_2 rfl rfl (slRep.old ha6 he177 (Nat.le_refl _)) hy184) ?_
                  rintro _ ⟨b185, o186, us187, rfl, hib190, hr188, hcl189⟩
                  have hib190 : 0 ≤ b185 ∧ b185 < w.heap.size := ⟨hib190.1, by have := hib190.2; omega⟩
                  obtain rfl := hr188
                  refine TL.yld rfl rfl (yld_load1 0 rfl ag_2 rfl hcl189 rfl rfl) ?_
                  obtain ⟨r191, hr192, hF⟩ := bsome hF
                  refine TL.eff rfl rfl (eff_call rfl gf_28 rfl (W_spec_l01In hr192)) ?_
                  rintro _ w193 ⟨rfl, hx194⟩
                  have he195 : Ext w w193 := Ext.trans he177 hx194
                  have hb179 := Box.ext hb179 hx194
                  have hz196 := (hx194).size
                  refine TL.yld rfl rfl (yld_not rfl rfl) ?_
                  refine TL.done ?_
                  refine NX.seq ?_
                  refine WC.cond rfl ?_ ?_
                  · intro hc197
                    replace hF := bif_t hc197 hF
                    refine WC.seq ?_
                    refine WC.region ?_
                    refine TL.yld rfl rfl (yld_assign rfl rfl) ?_
                    refine TL.done ?_
                    refine NX.seq ?_
                    refine WC.ret' ?_
                    refine NX.blk_r ?_
                    refine NX.then_r ?_
                    refine NX.then_r ?_
                    refine NX.blk_r ?_
                    refine NX.then_r ?_
                    refine NX.blk_r ?_
                    refine NX.then_r ?_
                    obtain rfl := Option.some.inj hF
                    exact NX.end (rs := [.tmp 2]) (vs := [.bool false]) rfl ⟨rfl, trivial⟩ ⟨_, rfl, rfl, he195⟩
                  · intro hc198
                    replace hF := bif_f hc198 hF
                    refine WC.skip' ?_
                    refine NX.blk_n ?_
                    refine NX.seq ?_
                    refine WC.region ?_
                    refine TL.yld rfl rfl (yld_move rfl rfl) ?_
                    refine TL.yld rfl rfl (yld_add rfl rfl rfl) ?_
                    refine TL.yld rfl rfl (yld_assign rfl rfl) ?_
                    refine TL.done ?_
                    refine NX.then_n ?_
                    intro a hK; exact ⟨m180, Nat.lt_succ_self m180, (IntKind.wrap IntKind.i64 (i178 + 1)), hK.weaken ⟨rfl, rfl, rfl, trivial⟩, he195, (by omega), hb179, hF⟩
                · intro hc199
                  replace hF := bif_f hc199 hF
                  refine WC.exit' ?_
                  refine NX.then_e ?_
                  refine NX.then_e ?_
                  refine NX.blk_hit ?_
                  refine NX.seq ?_
                  refine WC.seq ?_
                  refine WC.region ?_
                  refine TL.yld rfl rfl (yld_move rfl rfl) ?_
                  refine TL.yld rfl rfl (yld_eql rfl rfl rfl) ?_
                  refine TL.yld rfl rfl (yld_move rfl rfl) ?_
                  obtain ⟨c200, hb201, hF⟩ := bsome hF
                  refine TL.cut 11 [(126, .bool c200)] (fun w' => Ext w176 w') ?_ ?_
                  · rcases Bool.eq_false_or_eq_true ((r14.1 == 0)) with hg202 | hg202
                    ·
                      rw [hg202] at hb201; simp only [cond_true, cond_false] at hb201
                      replace hF := hb201
                      refine TL.gy (j := 2) (t := 115) rfl rfl rfl hg202 rfl (yld_fieldAddr rfl fo_32_4 rfl) ?_
                      refine TL.gy (j := 2) (t := 115) rfl rfl rfl hg202 rfl (yld_load1 4 rfl ag_24 rfl (Box.cells hb179) rfl rfl) ?_
                      refine TL.gy (j := 2) (t := 115) rfl rfl rfl hg202 rfl (ye_len (c := (cInt .i64)) rfl Tryz.underlying24 rfl (slRep.old ha6 he177 (Nat.le_refl _))) ?_
                      refine TL.gy (j := 2) (t := 115) rfl rfl rfl hg202 rfl (yld_fieldAddr rfl fo_32_2 rfl) ?_
                      refine TL.gy (j := 2) (t := 115) rfl rfl rfl hg202 rfl (yld_load1 2 rfl ag_29 rfl (Box.cells hb179) rfl rfl) ?_
                      refine TL.gy (j := 2) (t := 115) rfl rfl rfl hg202 rfl (ye_len (c := C_Pin) rfl Tryz.underlying29 rfl (slRep.old ha2 he177 (Nat.le_refl _))) ?_
                      refine TL.gy (j := 2) (t := 115) rfl rfl rfl hg202 rfl (yld_sub rfl rfl rfl) ?_
                      refine TL.gy (j := 2) (t := 115) rfl rfl rfl hg202 rfl (yld_conv rfl Tryz.underlying3 Tryz.underlying65 rfl) ?_
                      obtain ⟨hn203, hF⟩ := nneg hF
                      refine TL.gy (j := 2) (t := 115) rfl rfl rfl hg202 rfl (yld_shl rfl rfl rfl hn203) ?_
                      refine TL.gy (j := 2) (t := 115) rfl rfl rfl hg202 rfl (yld_eql rfl rfl rfl) ?_
                      obtain rfl := Option.some.inj hF
                      refine TL.yld rfl rfl (yld_pick_t rfl rfl hg202 rfl) ?_
                      exact TL.nil fun a h => ⟨h.weaken ⟨rfl, trivial⟩, Ext.refl _⟩
                    ·
                      rw [hg202] at hb201; simp only [cond_true, cond_false] at hb201
                      refine TL.gnu (j := 2) (t := 115) rfl rfl rfl hg202 rfl ?_
                      refine TL.gnu (j := 2) (t := 115) rfl rfl rfl hg202 rfl ?_
                      refine TL.gnu (j := 2) (t := 115) rfl rfl rfl hg202 rfl ?_
                      refine TL.gnu (j := 2) (t := 115) rfl rfl rfl hg202 rfl ?_
                      refine TL.gnu (j := 2) (t := 115) rfl rfl rfl hg202 rfl ?_
                      refine TL.gnu (j := 2) (t := 115) rfl rfl rfl hg202 rfl ?_
                      refine TL.gnu (j := 2) (t := 115) rfl rfl rfl hg202 rfl ?_
                      refine TL.gnu (j := 2) (t := 115) rfl rfl rfl hg202 rfl ?_
                      refine TL.gnu (j := 2) (t := 115) rfl rfl rfl hg202 rfl ?_
                      refine TL.gnu (j := 2) (t := 115) rfl rfl rfl hg202 rfl ?_
                      obtain rfl := Option.some.inj hb201
                      refine TL.yld rfl rfl (yld_pick_f rfl rfl hg202 rfl) ?_
                      exact TL.nil fun a h => ⟨h.weaken ⟨rfl, trivial⟩, Ext.refl _⟩
                  intro w204 hx205
                  have he206 : Ext w w204 := Ext.trans he177 hx205
                  have hz207 := (hx205).size
                  refine TL.yld rfl rfl (yld_assign rfl rfl) ?_
                  refine TL.done ?_
                  refine NX.seq ?_
                  refine WC.ret' ?_
                  refine NX.blk_r ?_
                  refine NX.then_r ?_
                  obtain rfl := Option.some.inj hF
                  exact NX.end (rs := [.tmp 2]) (vs := [.bool c200]) rfl ⟨rfl, trivial⟩ ⟨_, rfl, rfl, he206⟩
          · intro hc208
            replace hF := bif_f hc208 hF
            refine WC.seq ?_
            refine WC.region ?_
            refine TL.yld rfl rfl (yld_eql rfl rfl rfl) ?_
            refine TL.yld rfl rfl (yld_assign rfl rfl) ?_
            refine TL.done ?_
            refine NX.seq ?_
            refine WC.cond rfl ?_ ?_
            · intro hc209
              replace hF := bif_t hc209 hF
              refine WC.seq ?_
              refine WC.quiet Tryz.hm (by kernel_rfl) ?_
              refine QL.yld rfl rfl (Yld.qui (yld_move rfl rfl)) ?_
              refine QL.yld rfl rfl (Yld.qui (yld_eql rfl rfl rfl)) ?_
              refine QL.yld rfl rfl (Yld.qui (yld_move rfl rfl)) ?_
              obtain ⟨c210, hb211, hF⟩ := bsome hF
              refine QL.cut 5 [(1, .pointer (some ⟨b7, 0, none⟩)), (8, v169), (136, .bool c210)] ?_ ?_
              · rcases Bool.eq_false_or_eq_true ((r14.1 == 1)) with hg212 | hg212
                ·
                  rw [hg212] at hb211; simp only [cond_true, cond_false] at hb211
                  replace hF := hb211
                  refine QL.gy (j := 2) (t := 131) rfl rfl rfl hg212 rfl (Yld.qui (yld_move rfl rfl)) ?_
                  obtain ⟨x213, hy214, hF⟩ := bsome hF
                  refine QL.yeg (j := 2) (t := 131) rfl rfl rfl hg212 rfl (ye_index_own (c := (cInt .i64)) rfl Tryz.underlying24 cn_2 rfl rfl hs170 hy214) ?_
                  rintro _ ⟨g215, us217, rfl, hg216, hr218, hcl219⟩
                  obtain rfl := hr218
                  refine QL.gy (j := 2) (t := 131) rfl rfl rfl hg212 rfl (Yld.qui (yld_load1 0 rfl ag_2 rfl hcl219 rfl rfl)) ?_
                  refine QL.gy (j := 2) (t := 131) rfl rfl rfl hg212 rfl (Yld.qui (yld_eql rfl rfl rfl)) ?_
                  obtain rfl := Option.some.inj hF
                  refine QL.yld rfl rfl (Yld.qui (yld_pick_t rfl rfl hg212 rfl)) ?_
                  exact QL.nil fun a h => h.weaken ⟨rfl, rfl, rfl, trivial⟩
                ·
                  rw [hg212] at hb211; simp only [cond_true, cond_false] at hb211
                  refine QL.gnu (j := 2) (t := 131) rfl rfl rfl hg212 rfl ?_
                  refine QL.gnu (j := 2) (t := 131) rfl rfl rfl hg212 rfl ?_
                  refine QL.gnu (j := 2) (t := 131) rfl rfl rfl hg212 rfl ?_
                  refine QL.gnu (j := 2) (t := 131) rfl rfl rfl hg212 rfl ?_
                  obtain rfl := Option.some.inj hb211
                  refine QL.yld rfl rfl (Yld.qui (yld_pick_f rfl rfl hg212 rfl)) ?_
                  exact QL.nil fun a h => h.weaken ⟨rfl, rfl, rfl, trivial⟩
              refine QL.yld rfl rfl (Yld.qui (yld_move rfl rfl)) ?_
              obtain ⟨c220, hb221, hF⟩ := bsome hF
              refine QL.cut 10 [(1, .pointer (some ⟨b7, 0, none⟩)), (147, .bool c220)] ?_ ?_
              · rcases Bool.eq_false_or_eq_true c210 with hg222 | hg222
                ·
                  rw [hg222] at hb221; simp only [cond_true, cond_false] at hb221
                  replace hF := hb221
                  refine QL.gy (j := 8) (t := 137) rfl rfl rfl hg222 rfl (Yld.qui (yld_move rfl rfl)) ?_
                  obtain ⟨x223, hy224, hF⟩ := bsome hF
                  refine QL.yeg (j := 8) (t := 137) rfl rfl rfl hg222 rfl (ye_index_own (c := (cInt .i64)) rfl Tryz.underlying24 cn_2 rfl rfl hs170 hy224) ?_
                  rintro _ ⟨g225, us227, rfl, hg226, hr228, hcl229⟩
                  obtain rfl := hr228
                  refine QL.gy (j := 8) (t := 137) rfl rfl rfl hg222 rfl (Yld.qui (yld_load1 0 rfl ag_2 rfl hcl229 rfl rfl)) ?_
                  refine QL.gy (j := 8) (t := 137) rfl rfl rfl hg222 rfl (Yld.qui (yld_gtr rfl rfl rfl)) ?_
                  refine QL.gy (j := 8) (t := 137) rfl rfl rfl hg222 rfl (Yld.qui (yld_move rfl rfl)) ?_
                  obtain ⟨x230, hy231, hF⟩ := bsome hF
                  refine QL.yeg (j := 8) (t := 137) rfl rfl rfl hg222 rfl (ye_index_own (c := (cInt .i64)) rfl Tryz.underlying24 cn_2 rfl rfl hs170 hy231) ?_
                  rintro _ ⟨g232, us234, rfl, hg233, hr235, hcl236⟩
                  obtain rfl := hr235
                  refine QL.gy (j := 8) (t := 137) rfl rfl rfl hg222 rfl (Yld.qui (yld_load1 0 rfl ag_2 rfl hcl236 rfl rfl)) ?_
                  refine QL.gy (j := 8) (t := 137) rfl rfl rfl hg222 rfl (Yld.qui (yld_gtr rfl rfl rfl)) ?_
                  refine QL.gy (j := 8) (t := 137) rfl rfl rfl hg222 rfl (Yld.qui (yld_neb rfl Tryz.underlying4 rfl rfl)) ?_
                  obtain rfl := Option.some.inj hF
                  refine QL.yld rfl rfl (Yld.qui (yld_pick_t rfl rfl hg222 rfl)) ?_
                  exact QL.nil fun a h => h.weaken ⟨rfl, rfl, trivial⟩
                ·
                  rw [hg222] at hb221; simp only [cond_true, cond_false] at hb221
                  refine QL.gnu (j := 8) (t := 137) rfl rfl rfl hg222 rfl ?_
                  refine QL.gnu (j := 8) (t := 137) rfl rfl rfl hg222 rfl ?_
                  refine QL.gnu (j := 8) (t := 137) rfl rfl rfl hg222 rfl ?_
                  refine QL.gnu (j := 8) (t := 137) rfl rfl rfl hg222 rfl ?_
                  refine QL.gnu (j := 8) (t := 137) rfl rfl rfl hg222 rfl ?_
                  refine QL.gnu (j := 8) (t := 137) rfl rfl rfl hg222 rfl ?_
                  refine QL.gnu (j := 8) (t := 137) rfl rfl rfl hg222 rfl ?_
                  refine QL.gnu (j := 8) (t := 137) rfl rfl rfl hg222 rfl ?_
                  refine QL.gnu (j := 8) (t := 137) rfl rfl rfl hg222 rfl ?_
                  obtain rfl := Option.some.inj hb221
                  refine QL.yld rfl rfl (Yld.qui (yld_pick_f rfl rfl hg222 rfl)) ?_
                  exact QL.nil fun a h => h.weaken ⟨rfl, rfl, trivial⟩
              refine QL.yld rfl rfl (Yld.qui (yld_move rfl rfl)) ?_
              refine QL.cut 5 [(153, .bool ((c220 && ((((a0_c.Truth.length : Int)) == 0)))))] ?_ ?_
              · rcases Bool.eq_false_or_eq_true c220 with hg237 | hg237
                ·
                  refine QL.gy (j := 19) (t := 148) rfl rfl rfl hg237 rfl (Yld.qui (yld_fieldAddr rfl fo_32_4 rfl)) ?_
                  refine QL.gy (j := 19) (t := 148) rfl rfl rfl hg237 rfl (Yld.qui (yld_load1 4 rfl ag_24 rfl (Box.cells hb69) rfl rfl)) ?_
                  refine QL.gy (j := 19) (t := 148) rfl rfl rfl hg237 rfl (Yld.qui (ye_len (c := (cInt .i64)) rfl Tryz.underlying24 rfl (slRep.old ha6 he173 (Nat.le_refl _)))) ?_
                  refine QL.gy (j := 19) (t := 148) rfl rfl rfl hg237 rfl (Yld.qui (yld_eql rfl rfl rfl)) ?_
                  refine QL.yld rfl rfl (Yld.qui (yld_and_t rfl rfl hg237 rfl)) ?_
                  exact QL.nil fun a h => h.weaken ⟨rfl, trivial⟩
                ·
                  refine QL.gnu (j := 19) (t := 148) rfl rfl rfl hg237 rfl ?_
                  refine QL.gnu (j := 19) (t := 148) rfl rfl rfl hg237 rfl ?_
                  refine QL.gnu (j := 19) (t := 148) rfl rfl rfl hg237 rfl ?_
                  refine QL.gnu (j := 19) (t := 148) rfl rfl rfl hg237 rfl ?_
                  refine QL.yld rfl rfl (Yld.qui (yld_and_f (b2 := (((a0_c.Truth.length : Int)) == 0)) rfl rfl hg237 rfl)) ?_
                  exact QL.nil fun a h => h.weaken ⟨rfl, trivial⟩
              refine QL.yld rfl rfl (Yld.qui (yld_assign rfl rfl)) ?_
              refine QL.done fun w238 hx239 => ?_
              have he240 : Ext w w238 := Ext.trans he173 hx239
              have hb69 := Box.ext hb69 hx239
              have hs170 := ownR.ext hs170 hx239
              have hz241 := (hx239).size
              refine NX.seq ?_
              refine WC.ret' ?_
              refine NX.blk_r ?_
              refine NX.then_r ?_
              obtain rfl := Option.some.inj hF
              exact NX.end (rs := [.tmp 2]) (vs := [.bool ((c220 && ((((a0_c.Truth.length : Int)) == 0))))]) rfl ⟨rfl, trivial⟩ ⟨_, rfl, rfl, he240⟩
            · intro hc242
              replace hF := bif_f hc242 hF
              refine WC.seq ?_
              refine WC.region ?_
              refine TL.yld rfl rfl (yld_eql rfl rfl rfl) ?_
              refine TL.yld rfl rfl (yld_assign rfl rfl) ?_
              refine TL.done ?_
              refine NX.seq ?_
              refine WC.cond rfl ?_ ?_
              · intro hc243
                replace hF := bif_t hc243 hF
                refine WC.seq ?_
                refine WC.region ?_
                refine TL.yld rfl rfl (yld_move rfl rfl) ?_
                refine TL.yld rfl rfl (yld_eql rfl rfl rfl) ?_
                refine TL.yld rfl rfl (yld_move rfl rfl) ?_
                obtain ⟨c244, hb245, hF⟩ := bsome hF
                refine TL.cut 5 [(1, .pointer (some ⟨b7, 0, none⟩)), (8, v169), (163, .bool c244)] (fun w' => Ext w167 w') ?_ ?_
                · rcases Bool.eq_false_or_eq_true ((r14.1 == 1)) with hg246 | hg246
                  ·
                    rw [hg246] at hb245; simp only [cond_true, cond_false] at hb245
                    replace hF := hb245
                    refine TL.gy (j := 2) (t := 158) rfl rfl rfl hg246 rfl (yld_move rfl rfl) ?_
                    obtain ⟨x247, hy248, hF⟩ := bsome hF
                    refine TL.yeg (j := 2) (t := 158) rfl rfl rfl hg246 rfl (ye_index_own (c := (cInt .i64)) rfl Tryz.underlying24 cn_2 rfl rfl hs170 hy248) ?_
                    rintro _ ⟨g249, us251, rfl, hg250, hr252, hcl253⟩
                    obtain rfl := hr252
                    refine TL.gy (j := 2) (t := 158) rfl rfl rfl hg246 rfl (yld_load1 0 rfl ag_2 rfl hcl253 rfl rfl) ?_
                    refine TL.gy (j := 2) (t := 158) rfl rfl rfl hg246 rfl (yld_gtr rfl rfl rfl) ?_
                    obtain rfl := Option.some.inj hF
                    refine TL.yld rfl rfl (yld_pick_t rfl rfl hg246 rfl) ?_
                    exact TL.nil fun a h => ⟨h.weaken ⟨rfl, rfl, rfl, trivial⟩, Ext.refl _⟩
                  ·
                    rw [hg246] at hb245; simp only [cond_true, cond_false] at hb245
                    refine TL.gnu (j := 2) (t := 158) rfl rfl rfl hg246 rfl ?_
                    refine TL.gnu (j := 2) (t := 158) rfl rfl rfl hg246 rfl ?_
                    refine TL.gnu (j := 2) (t := 158) rfl rfl rfl hg246 rfl ?_
                    refine TL.gnu (j := 2) (t := 158) rfl rfl rfl hg246 rfl ?_
                    obtain rfl := Option.some.inj hb245
                    refine TL.yld rfl rfl (yld_pick_f rfl rfl hg246 rfl) ?_
                    exact TL.nil fun a h => ⟨h.weaken ⟨rfl, rfl, rfl, trivial⟩, Ext.refl _⟩
                intro w254 hx255
                have he256 : Ext w w254 := Ext.trans he173 hx255
                have hb69 := Box.ext hb69 hx255
                have hs170 := ownR.ext hs170 hx255
                have hz257 := (hx255).size
                refine TL.yld rfl rfl (yld_move rfl rfl) ?_
                obtain ⟨c258, hb259, hF⟩ := bsome hF
                refine TL.cut 5 [(1, .pointer (some ⟨b7, 0, none⟩)), (8, v169), (169, .bool c258)] (fun w' => Ext w254 w') ?_ ?_
                · rcases Bool.eq_false_or_eq_true c244 with hg260 | hg260
                  ·
                    rw [hg260] at hb259; simp only [cond_true, cond_false] at hb259
                    replace hF := hb259
                    refine TL.gy (j := 8) (t := 164) rfl rfl rfl hg260 rfl (yld_move rfl rfl) ?_
                    obtain ⟨x261, hy262, hF⟩ := bsome hF
                    refine TL.yeg (j := 8) (t := 164) rfl rfl rfl hg260 rfl (ye_index_own (c := (cInt .i64)) rfl Tryz.underlying24 cn_2 rfl rfl hs170 hy262) ?_
                    rintro _ ⟨g263, us265, rfl, hg264, hr266, hcl267⟩
                    obtain rfl := hr266
                    refine TL.gy (j := 8) (t := 164) rfl rfl rfl hg260 rfl (yld_load1 0 rfl ag_2 rfl hcl267 rfl rfl) ?_
                    refine TL.gy (j := 8) (t := 164) rfl rfl rfl hg260 rfl (yld_gtr rfl rfl rfl) ?_
                    obtain rfl := Option.some.inj hF
                    refine TL.yld rfl rfl (yld_pick_t rfl rfl hg260 rfl) ?_
                    exact TL.nil fun a h => ⟨h.weaken ⟨rfl, rfl, rfl, trivial⟩, Ext.refl _⟩
                  ·
                    rw [hg260] at hb259; simp only [cond_true, cond_false] at hb259
                    refine TL.gnu (j := 8) (t := 164) rfl rfl rfl hg260 rfl ?_
                    refine TL.gnu (j := 8) (t := 164) rfl rfl rfl hg260 rfl ?_
                    refine TL.gnu (j := 8) (t := 164) rfl rfl rfl hg260 rfl ?_
                    refine TL.gnu (j := 8) (t := 164) rfl rfl rfl hg260 rfl ?_
                    obtain rfl := Option.some.inj hb259
                    refine TL.yld rfl rfl (yld_pick_f rfl rfl hg260 rfl) ?_
                    exact TL.nil fun a h => ⟨h.weaken ⟨rfl, rfl, rfl, trivial⟩, Ext.refl _⟩
                intro w268 hx269
                have he270 : Ext w w268 := Ext.trans he256 hx269
                have hb69 := Box.ext hb69 hx269
                have hs170 := ownR.ext hs170 hx269
                have hz271 := (hx269).size
                refine TL.yld rfl rfl (yld_move rfl rfl) ?_
                obtain ⟨c272, hb273, hF⟩ := bsome hF
                refine TL.cut 5 [(1, .pointer (some ⟨b7, 0, none⟩)), (175, .bool c272)] (fun w' => Ext w268 w') ?_ ?_
                · rcases Bool.eq_false_or_eq_true c258 with hg274 | hg274
                  ·
                    rw [hg274] at hb273; simp only [cond_true, cond_false] at hb273
                    replace hF := hb273
                    refine TL.gy (j := 14) (t := 170) rfl rfl rfl hg274 rfl (yld_move rfl rfl) ?_
                    obtain ⟨x275, hy276, hF⟩ := bsome hF
                    refine TL.yeg (j := 14) (t := 170) rfl rfl rfl hg274 rfl (ye_index_own (c := (cInt .i64)) rfl Tryz.underlying24 cn_2 rfl rfl hs170 hy276) ?_
                    rintro _ ⟨g277, us279, rfl, hg278, hr280, hcl281⟩
                    obtain rfl := hr280
                    refine TL.gy (j := 14) (t := 170) rfl rfl rfl hg274 rfl (yld_load1 0 rfl ag_2 rfl hcl281 rfl rfl) ?_
                    refine TL.gy (j := 14) (t := 170) rfl rfl rfl hg274 rfl (yld_eql rfl rfl rfl) ?_
                    obtain rfl := Option.some.inj hF
                    refine TL.yld rfl rfl (yld_pick_t rfl rfl hg274 rfl) ?_
                    exact TL.nil fun a h => ⟨h.weaken ⟨rfl, rfl, trivial⟩, Ext.refl _⟩
                  ·
                    rw [hg274] at hb273; simp only [cond_true, cond_false] at hb273
                    refine TL.gnu (j := 14) (t := 170) rfl rfl rfl hg274 rfl ?_
                    refine TL.gnu (j := 14) (t := 170) rfl rfl rfl hg274 rfl ?_
                    refine TL.gnu (j := 14) (t := 170) rfl rfl rfl hg274 rfl ?_
                    refine TL.gnu (j := 14) (t := 170) rfl rfl rfl hg274 rfl ?_
                    obtain rfl := Option.some.inj hb273
                    refine TL.yld rfl rfl (yld_pick_f rfl rfl hg274 rfl) ?_
                    exact TL.nil fun a h => ⟨h.weaken ⟨rfl, rfl, trivial⟩, Ext.refl _⟩
                intro w282 hx283
                have he284 : Ext w w282 := Ext.trans he270 hx283
                have hb69 := Box.ext hb69 hx283
                have hz285 := (hx283).size
                refine TL.yld rfl rfl (yld_move rfl rfl) ?_
                refine TL.cut 5 [(181, .bool ((c272 && ((((a0_c.Truth.length : Int)) == 0)))))] (fun w' => Ext w282 w') ?_ ?_
                · rcases Bool.eq_false_or_eq_true c272 with hg286 | hg286
                  ·
                    refine TL.gy (j := 20) (t := 176) rfl rfl rfl hg286 rfl (yld_fieldAddr rfl fo_32_4 rfl) ?_
                    refine TL.gy (j := 20) (t := 176) rfl rfl rfl hg286 rfl (yld_load1 4 rfl ag_24 rfl (Box.cells hb69) rfl rfl) ?_
                    refine TL.gy (j := 20) (t := 176) rfl rfl rfl hg286 rfl (ye_len (c := (cInt .i64)) rfl Tryz.underlying24 rfl (slRep.old ha6 he284 (Nat.le_refl _))) ?_
                    refine TL.gy (j := 20) (t := 176) rfl rfl rfl hg286 rfl (yld_eql rfl rfl rfl) ?_
                    refine TL.yld rfl rfl (yld_and_t rfl rfl hg286 rfl) ?_
                    exact TL.nil fun a h => ⟨h.weaken ⟨rfl, trivial⟩, Ext.refl _⟩
                  ·
                    refine TL.gnu (j := 20) (t := 176) rfl rfl rfl hg286 rfl ?_
                    refine TL.gnu (j := 20) (t := 176) rfl rfl rfl hg286 rfl ?_
                    refine TL.gnu (j := 20) (t := 176) rfl rfl rfl hg286 rfl ?_
                    refine TL.gnu (j := 20) (t := 176) rfl rfl rfl hg286 rfl ?_
                    refine TL.yld rfl rfl (yld_and_f (b2 := (((a0_c.Truth.length : Int)) == 0)) rfl rfl hg286 rfl) ?_
                    exact TL.nil fun a h => ⟨h.weaken ⟨rfl, trivial⟩, Ext.refl _⟩
                intro w287 hx288
                have he289 : Ext w w287 := Ext.trans he284 hx288
                have hz290 := (hx288).size
                refine TL.yld rfl rfl (yld_assign rfl rfl) ?_
                refine TL.done ?_
                refine NX.seq ?_
                refine WC.ret' ?_
                refine NX.blk_r ?_
                refine NX.then_r ?_
                obtain rfl := Option.some.inj hF
                exact NX.end (rs := [.tmp 2]) (vs := [.bool ((c272 && ((((a0_c.Truth.length : Int)) == 0))))]) rfl ⟨rfl, trivial⟩ ⟨_, rfl, rfl, he289⟩
              · intro hc291
                replace hF := bif_f hc291 hF
                refine WC.skip' ?_
                refine NX.blk_n ?_
                refine NX.seq ?_
                refine WC.seq ?_
                refine WC.region ?_
                refine TL.yld rfl rfl (yld_assign rfl rfl) ?_
                refine TL.done ?_
                refine NX.seq ?_
                refine WC.ret' ?_
                obtain rfl := Option.some.inj hF
                exact NX.end (rs := [.tmp 2]) (vs := [.bool false]) rfl ⟨rfl, trivial⟩ ⟨_, rfl, rfl, he173⟩

-- loop.example/g00861/spec.l17Inputs
def F_spec_l17Inputs (n : Nat) (a0_c : S_Cell) (a1_p : Int) (a2_q : Int) : Option Bool := (Option.bind (bif (a0_c.Kind == 1) then (Option.bind (F_spec_l01In n a1_p 0 (IntKind.wrap IntKind.i64 (((a0_c.Pins.length : Int)) - 2))) fun r14 => (some r14)) else (some false)) fun c14 => (Option.bind (bif c14 then (Option.bind (F_spec_l01In n a2_q 0 (IntKind.wrap IntKind.i64 (((a0_c.Pins.length : Int)) - 2))) fun r27 => (some r27)) else (some false)) fun c27 => (some ((c27 && ((a1_p != a2_q)))))))
set_option maxHeartbeats 40000000 in
theorem W_spec_l17Inputs {n : Nat} {a0_c : S_Cell} {a1_p : Int} {a2_q : Int} {r : Bool} {w : World} {v1 : Value} {v3 : Value} {v5 : Value} (hF : F_spec_l17Inputs n a0_c a1_p a2_q = some r) (ha2 : slRep C_Pin w (Iv 0 w.heap.size) a0_c.Pins v1) (ha4 : slRep C_Arc w (Iv 0 w.heap.size) a0_c.Arcs v3) (ha6 : slRep (cInt .i64) w (Iv 0 w.heap.size) a0_c.Truth v5) :
    Calls Tryz.prog 13 [.agg #[.string a0_c.Name, .int .i64 a0_c.Kind, v1, v3, v5, .int .i64 a0_c.Leak, .int .i64 a0_c.Energy], .int .i64 a1_p, .int .i64 a2_q].toArray w (Ret fun u w2 => u = .bool r ∧ Ext w w2) := by
  refine calls_of Tryz.func13 rfl Tryz.ntmps13 ?_
  have he0 : Ext w w := Ext.refl w
  unfold F_spec_l17Inputs at hF
  refine WC.seq ?_
  refine WC.region ?_
  refine TL.eff rfl rfl (eff_box rfl rfl) ?_
  rintro _ w8 ⟨b7, rfl, hn9⟩
  obtain ⟨hn9e, hn9s, hn9x, hb10⟩ := hn9
  have hb10 : Box w8 b7 [.string a0_c.Name, .int .i64 a0_c.Kind, v1, v3, v5, .int .i64 a0_c.Leak, .int .i64 a0_c.Energy] 32 := hb10
  have he12 : Ext w w8 := Ext.trans he0 hn9x
  have hz13 := (hn9x).size
  have hlo11 : w.heap.size ≤ b7 := by rw [hn9e]; exact (he0).size
  refine TL.yld rfl rfl (yld_assign rfl rfl) ?_
  refine TL.done ?_
  refine NX.seq ?_
  refine WC.seq ?_
  refine WC.region ?_
  refine TL.yld rfl rfl (yld_fieldAddr rfl fo_32_2 rfl) ?_
  refine TL.yld rfl rfl (yld_load1 2 rfl ag_29 rfl (Box.cells hb10) rfl rfl) ?_
  refine TL.yld rfl rfl (ye_len (c := C_Pin) rfl Tryz.underlying29 rfl (slRep.old ha2 he12 (Nat.le_refl _))) ?_
  refine TL.yld rfl rfl (yld_sub rfl rfl rfl) ?_
  refine TL.yld rfl rfl (yld_assign rfl rfl) ?_
  refine TL.done ?_
  refine NX.seq ?_
  refine WC.seq ?_
  refine WC.region ?_
  refine TL.yld rfl rfl (yld_fieldAddr rfl fo_32_1 rfl) ?_
  refine TL.yld rfl rfl (yld_load1 1 rfl ag_2 rfl (Box.cells hb10) rfl rfl) ?_
  refine TL.yld rfl rfl (yld_eql rfl rfl rfl) ?_
  refine TL.yld rfl rfl (yld_move rfl rfl) ?_
  obtain ⟨c14, hb15, hF⟩ := bsome hF
  refine TL.cut 4 [(1, .int .i64 a1_p), (2, .int .i64 a2_q), (7, .int .i64 (IntKind.wrap IntKind.i64 (((a0_c.Pins.length : Int)) - 2))), (19, .bool c14)] (fun w' => Ext w8 w') ?_ ?_
  · rcases Bool.eq_false_or_eq_true ((a0_c.Kind == 1)) with hg16 | hg16
    ·
      rw [hg16] at hb15; simp only [cond_true, cond_false] at hb15
      replace hF := hb15
      refine TL.gy (j := 3) (t := 15) rfl rfl rfl hg16 rfl (yld_move rfl rfl) ?_
      refine TL.gy (j := 3) (t := 15) rfl rfl rfl hg16 rfl (yld_move rfl rfl) ?_
      obtain ⟨r17, hr18, hF⟩ := bsome hF
      refine TL.ge (j := 3) (t := 15) rfl rfl rfl hg16 rfl (eff_call rfl gf_28 rfl (W_spec_l01In hr18)) ?_
      rintro _ w19 ⟨rfl, hx20⟩
      have hz22 := (hx20).size
      obtain rfl := Option.some.inj hF
      refine TL.yld rfl rfl (yld_pick_t rfl rfl hg16 rfl) ?_
      exact TL.nil fun a h => ⟨h.weaken ⟨rfl, rfl, rfl, rfl, trivial⟩, hx20⟩
    ·
      rw [hg16] at hb15; simp only [cond_true, cond_false] at hb15
      refine TL.gnu (j := 3) (t := 15) rfl rfl rfl hg16 rfl ?_
      refine TL.gnu (j := 3) (t := 15) rfl rfl rfl hg16 rfl ?_
      refine TL.gnu (j := 3) (t := 15) rfl rfl rfl hg16 rfl ?_
      obtain rfl := Option.some.inj hb15
      refine TL.yld rfl rfl (yld_pick_f rfl rfl hg16 rfl) ?_
      exact TL.nil fun a h => ⟨h.weaken ⟨rfl, rfl, rfl, rfl, trivial⟩, Ext.refl _⟩
  intro w23 hx24
  have he25 : Ext w w23 := Ext.trans he12 hx24
  have hz26 := (hx24).size
  refine TL.yld rfl rfl (yld_move rfl rfl) ?_
  obtain ⟨c27, hb28, hF⟩ := bsome hF
  refine TL.cut 4 [(1, .int .i64 a1_p), (2, .int .i64 a2_q), (24, .bool c27)] (fun w' => Ext w23 w') ?_ ?_
  · rcases Bool.eq_false_or_eq_true c14 with hg29 | hg29
    ·
      rw [hg29] at hb28; simp only [cond_true, cond_false] at hb28
      replace hF := hb28
      refine TL.gy (j := 8) (t := 20) rfl rfl rfl hg29 rfl (yld_move rfl rfl) ?_
      refine TL.gy (j := 8) (t := 20) rfl rfl rfl hg29 rfl (yld_move rfl rfl) ?_
      obtain ⟨r30, hr31, hF⟩ := bsome hF
      refine TL.ge (j := 8) (t := 20) rfl rfl rfl hg29 rfl (eff_call rfl gf_28 rfl (W_spec_l01In hr31)) ?_
      rintro _ w32 ⟨rfl, hx33⟩
      have hz35 := (hx33).size
      obtain rfl := Option.some.inj hF
      refine TL.yld rfl rfl (yld_pick_t rfl rfl hg29 rfl) ?_
      exact TL.nil fun a h => ⟨h.weaken ⟨rfl, rfl, rfl, trivial⟩, hx33⟩
    ·
      rw [hg29] at hb28; simp only [cond_true, cond_false] at hb28
      refine TL.gnu (j := 8) (t := 20) rfl rfl rfl hg29 rfl ?_
      refine TL.gnu (j := 8) (t := 20) rfl rfl rfl hg29 rfl ?_
      refine TL.gnu (j := 8) (t := 20) rfl rfl rfl hg29 rfl ?_
      obtain rfl := Option.some.inj hb28
      refine TL.yld rfl rfl (yld_pick_f rfl rfl hg29 rfl) ?_
      exact TL.nil fun a h => ⟨h.weaken ⟨rfl, rfl, rfl, trivial⟩, Ext.refl _⟩
  intro w36 hx37
  have he38 : Ext w w36 := Ext.trans he25 hx37
  have hz39 := (hx37).size
  refine TL.yld rfl rfl (yld_move rfl rfl) ?_
  refine TL.cut 4 [(29, .bool ((c27 && ((a1_p != a2_q)))))] (fun w' => Ext w36 w') ?_ ?_
  · rcases Bool.eq_false_or_eq_true c27 with hg40 | hg40
    ·
      refine TL.gy (j := 13) (t := 25) rfl rfl rfl hg40 rfl (yld_move rfl rfl) ?_
      refine TL.gy (j := 13) (t := 25) rfl rfl rfl hg40 rfl (yld_move rfl rfl) ?_
      refine TL.gy (j := 13) (t := 25) rfl rfl rfl hg40 rfl (yld_neq rfl rfl rfl) ?_
      refine TL.yld rfl rfl (yld_and_t rfl rfl hg40 rfl) ?_
      exact TL.nil fun a h => ⟨h.weaken ⟨rfl, trivial⟩, Ext.refl _⟩
    ·
      refine TL.gnu (j := 13) (t := 25) rfl rfl rfl hg40 rfl ?_
      refine TL.gnu (j := 13) (t := 25) rfl rfl rfl hg40 rfl ?_
      refine TL.gnu (j := 13) (t := 25) rfl rfl rfl hg40 rfl ?_
      refine TL.yld rfl rfl (yld_and_f (b2 := (a1_p != a2_q)) rfl rfl hg40 rfl) ?_
      exact TL.nil fun a h => ⟨h.weaken ⟨rfl, trivial⟩, Ext.refl _⟩
  intro w41 hx42
  have he43 : Ext w w41 := Ext.trans he38 hx42
  have hz44 := (hx42).size
  refine TL.yld rfl rfl (yld_assign rfl rfl) ?_
  refine TL.done ?_
  refine NX.seq ?_
  refine WC.ret' ?_
  obtain rfl := Option.some.inj hF
  exact NX.end (rs := [.tmp 6]) (vs := [.bool ((c27 && ((a1_p != a2_q))))]) rfl ⟨rfl, trivial⟩ ⟨_, rfl, rfl, he43⟩

-- loop.example/g00861/spec.l17Passes
def F_spec_l17Passes_L1 (a0_c : S_Cell) (a1_p : Int) (a2_q : Int) (a3_level : Int) (k0 : Int → Option Bool) : Nat → Int → Option Bool
  | 0 => fun _ => none
  | m + 1 => fun i16 => (bif decide (i16 < (a0_c.Truth.length : Int)) then (bif decide (IntKind.wrap IntKind.u64 a1_p < 0) then none else (Option.bind (bif ((andK .i64 (shrK .i64 i16 (IntKind.wrap IntKind.u64 a1_p)) 1) == a3_level) then (bif decide (IntKind.wrap IntKind.u64 a2_q < 0) then none else (some (((andK .i64 (shrK .i64 i16 (IntKind.wrap IntKind.u64 a2_q)) 1) == 0)))) else (some false)) fun c20 => (Option.bind (bif c20 then (Option.bind (getI a0_c.Truth i16) fun x24 => (bif decide (IntKind.wrap IntKind.u64 a2_q < 0) then none else (Option.bind (getI a0_c.Truth (IntKind.wrap IntKind.i64 (i16 + (shlK .i64 1 (IntKind.wrap IntKind.u64 a2_q))))) fun x33 => (some ((x24 != x33)))))) else (some false)) fun c24 => (bif c24 then (some true) else (F_spec_l17Passes_L1 a0_c a1_p a2_q a3_level k0 m (IntKind.wrap IntKind.i64 (i16 + 1))))))) else (k0 i16))
theorem F_spec_l17Passes_L1_z (a0_c : S_Cell) (a1_p : Int) (a2_q : Int) (a3_level : Int) (k0 : Int → Option Bool) (i16 : Int) : F_spec_l17Passes_L1 a0_c a1_p a2_q a3_level k0 0 i16 = none := rfl
theorem F_spec_l17Passes_L1_s (m : Nat) (a0_c : S_Cell) (a1_p : Int) (a2_q : Int) (a3_level : Int) (k0 : Int → Option Bool) (i16 : Int) : F_spec_l17Passes_L1 a0_c a1_p a2_q a3_level k0 (m + 1) i16 = (bif decide (i16 < (a0_c.Truth.length : Int)) then (bif decide (IntKind.wrap IntKind.u64 a1_p < 0) then none else (Option.bind (bif ((andK .i64 (shrK .i64 i16 (IntKind.wrap IntKind.u64 a1_p)) 1) == a3_level) then (bif decide (IntKind.wrap IntKind.u64 a2_q < 0) then none else (some (((andK .i64 (shrK .i64 i16 (IntKind.wrap IntKind.u64 a2_q)) 1) == 0)))) else (some false)) fun c20 => (Option.bind (bif c20 then (Option.bind (getI a0_c.Truth i16) fun x24 => (bif decide (IntKind.wrap IntKind.u64 a2_q < 0) then none else (Option.bind (getI a0_c.Truth (IntKind.wrap IntKind.i64 (i16 + (shlK .i64 1 (IntKind.wrap IntKind.u64 a2_q))))) fun x33 => (some ((x24 != x33)))))) else (some false)) fun c24 => (bif c24 then (some true) else (F_spec_l17Passes_L1 a0_c a1_p a2_q a3_level k0 m (IntKind.wrap IntKind.i64 (i16 + 1))))))) else (k0 i16)) := rfl

def F_spec_l17Passes (n : Nat) (a0_c : S_Cell) (a1_p : Int) (a2_q : Int) (a3_level : Int) : Option Bool := (F_spec_l17Passes_L1 a0_c a1_p a2_q a3_level (fun i16 => (some false)) n 0)
set_option maxHeartbeats 40000000 in
theorem W_spec_l17Passes {n : Nat} {a0_c : S_Cell} {a1_p : Int} {a2_q : Int} {a3_level : Int} {r : Bool} {w : World} {v1 : Value} {v3 : Value} {v5 : Value} (hF : F_spec_l17Passes n a0_c a1_p a2_q a3_level = some r) (ha2 : slRep C_Pin w (Iv 0 w.heap.size) a0_c.Pins v1) (ha4 : slRep C_Arc w (Iv 0 w.heap.size) a0_c.Arcs v3) (ha6 : slRep (cInt .i64) w (Iv 0 w.heap.size) a0_c.Truth v5) :
    Calls Tryz.prog 31 [.agg #[.string a0_c.Name, .int .i64 a0_c.Kind, v1, v3, v5, .int .i64 a0_c.Leak, .int .i64 a0_c.Energy], .int .i64 a1_p, .int .i64 a2_q, .int .i64 a3_level].toArray w (Ret fun u w2 => u = .bool r ∧ Ext w w2) := by
  refine calls_of Tryz.func31 rfl Tryz.ntmps31 ?_
  have he0 : Ext w w := Ext.refl w
  unfold F_spec_l17Passes at hF
  refine WC.seq ?_
  refine WC.region ?_
  refine TL.eff rfl rfl (eff_box rfl rfl) ?_
  rintro _ w8 ⟨b7, rfl, hn9⟩
  obtain ⟨hn9e, hn9s, hn9x, hb10⟩ := hn9
  have hb10 : Box w8 b7 [.string a0_c.Name, .int .i64 a0_c.Kind, v1, v3, v5, .int .i64 a0_c.Leak, .int .i64 a0_c.Energy] 32 := hb10
  have he12 : Ext w w8 := Ext.trans he0 hn9x
  have hz13 := (hn9x).size
  have hlo11 : w.heap.size ≤ b7 := by rw [hn9e]; exact (he0).size
  refine TL.yld rfl rfl (yld_assign rfl rfl) ?_
  refine TL.done ?_
  refine NX.seq ?_
  refine WC.seq ?_
  refine WC.seq ?_
  refine WC.region ?_
  refine TL.yld rfl rfl (yld_assign rfl rfl) ?_
  refine TL.done ?_
  refine NX.seq ?_
  refine WC.block ?_
  refine WC.loop (fun m18 a wl => ∃ (i16 : Int), Kn 49 [(1, .int .i64 a1_p), (2, .int .i64 a2_q), (3, .int .i64 a3_level), (4, .pointer (some ⟨b7, 0, none⟩)), (9, .int .i64 i16)] a ∧ Ext w wl ∧ w8.heap.size ≤ wl.heap.size ∧ Box wl b7 [.string a0_c.Name, .int .i64 a0_c.Kind, v1, v3, v5, .int .i64 a0_c.Leak, .int .i64 a0_c.Energy] 32 ∧ F_spec_l17Passes_L1 a0_c a1_p a2_q a3_level (fun i16 => (some false)) m18 i16 = some r) n ?_ ?_
  · intro a hK; exact ⟨0, hK.weaken ⟨rfl, rfl, rfl, rfl, rfl, trivial⟩, he12, Nat.le_refl _, hb10, hF⟩
  · rintro m18 a w14 ⟨i16, hK, he15, hz19, hb17, hF⟩
    revert hK; revert a; refine (?_ : WC _ _ _ _ _ _)
    cases m18 with
    | zero => rw [F_spec_l17Passes_L1_z] at hF; cases hF
    | succ m18 =>
      rw [F_spec_l17Passes_L1_s] at hF
      refine WC.seq ?_
      refine WC.seq ?_
      refine WC.region ?_
      refine TL.yld rfl rfl (yld_move rfl rfl) ?_
      refine TL.yld rfl rfl (yld_fieldAddr rfl fo_32_4 rfl) ?_
      refine TL.yld rfl rfl (yld_load1 4 rfl ag_24 rfl (Box.cells hb17) rfl rfl) ?_
      refine TL.yld rfl rfl (ye_len (c := (cInt .i64)) rfl Tryz.underlying24 rfl (slRep.old ha6 he15 (Nat.le_refl _))) ?_
      refine TL.yld rfl rfl (yld_lss rfl rfl rfl) ?_
      refine TL.done ?_
      refine NX.seq ?_
      refine WC.cond rfl ?_ ?_
      · intro hc20
        replace hF := bif_t hc20 hF
        refine WC.skip' ?_
        refine NX.seq ?_
        refine WC.seq ?_
        refine WC.block ?_
        refine WC.seq ?_
        refine WC.quiet Tryz.hm (by kernel_rfl) ?_
        refine QL.yld rfl rfl (Yld.qui (yld_move rfl rfl)) ?_
        refine QL.yld rfl rfl (Yld.qui (yld_move rfl rfl)) ?_
        refine QL.yld rfl rfl (Yld.qui (yld_conv rfl Tryz.underlying2 Tryz.underlying65 rfl)) ?_
        obtain ⟨hn21, hF⟩ := nneg hF
        refine QL.yld rfl rfl (Yld.qui (yld_shr rfl rfl rfl hn21)) ?_
        refine QL.yld rfl rfl (Yld.qui (yld_and rfl rfl rfl)) ?_
        refine QL.yld rfl rfl (Yld.qui (yld_move rfl rfl)) ?_
        refine QL.yld rfl rfl (Yld.qui (yld_eql rfl rfl rfl)) ?_
        refine QL.yld rfl rfl (Yld.qui (yld_move rfl rfl)) ?_
        obtain ⟨c22, hb23, hF⟩ := bsome hF
        refine QL.cut 7 [(1, .int .i64 a1_p), (2, .int .i64 a2_q), (3, .int .i64 a3_level), (4, .pointer (some ⟨b7, 0, none⟩)), (9, .int .i64 i16), (31, .bool c22)] ?_ ?_
        · rcases Bool.eq_false_or_eq_true (((andK .i64 (shrK .i64 i16 (IntKind.wrap IntKind.u64 a1_p)) 1) == a3_level)) with hg24 | hg24
          ·
            rw [hg24] at hb23; simp only [cond_true, cond_false] at hb23
            replace hF := hb23
            refine QL.gy (j := 7) (t := 24) rfl rfl rfl hg24 rfl (Yld.qui (yld_move rfl rfl)) ?_
            refine QL.gy (j := 7) (t := 24) rfl rfl rfl hg24 rfl (Yld.qui (yld_move rfl rfl)) ?_
            refine QL.gy (j := 7) (t := 24) rfl rfl rfl hg24 rfl (Yld.qui (yld_conv rfl Tryz.underlying2 Tryz.underlying65 rfl)) ?_
            obtain ⟨hn25, hF⟩ := nneg hF
            refine QL.gy (j := 7) (t := 24) rfl rfl rfl hg24 rfl (Yld.qui (yld_shr rfl rfl rfl hn25)) ?_
            refine QL.gy (j := 7) (t := 24) rfl rfl rfl hg24 rfl (Yld.qui (yld_and rfl rfl rfl)) ?_
            refine QL.gy (j := 7) (t := 24) rfl rfl rfl hg24 rfl (Yld.qui (yld_eql rfl rfl rfl)) ?_
            obtain rfl := Option.some.inj hF
            refine QL.yld rfl rfl (Yld.qui (yld_pick_t rfl rfl hg24 rfl)) ?_
            exact QL.nil fun a h => h.weaken ⟨rfl, rfl, rfl, rfl, rfl, rfl, trivial⟩
          ·
            rw [hg24] at hb23; simp only [cond_true, cond_false] at hb23
            refine QL.gnu (j := 7) (t := 24) rfl rfl rfl hg24 rfl ?_
            refine QL.gnu (j := 7) (t := 24) rfl rfl rfl hg24 rfl ?_
            refine QL.gnu (j := 7) (t := 24) rfl rfl rfl hg24 rfl ?_
            refine QL.gnu (j := 7) (t := 24) rfl rfl rfl hg24 rfl ?_
            refine QL.gnu (j := 7) (t := 24) rfl rfl rfl hg24 rfl ?_
            refine QL.gnu (j := 7) (t := 24) rfl rfl rfl hg24 rfl ?_
            obtain rfl := Option.some.inj hb23
            refine QL.yld rfl rfl (Yld.qui (yld_pick_f rfl rfl hg24 rfl)) ?_
            exact QL.nil fun a h => h.weaken ⟨rfl, rfl, rfl, rfl, rfl, rfl, trivial⟩
        refine QL.yld rfl rfl (Yld.qui (yld_move rfl rfl)) ?_
        obtain ⟨c26, hb27, hF⟩ := bsome hF
        refine QL.cut 16 [(1, .int .i64 a1_p), (2, .int .i64 a2_q), (3, .int .i64 a3_level), (4, .pointer (some ⟨b7, 0, none⟩)), (9, .int .i64 i16), (48, .bool c26)] ?_ ?_
        · rcases Bool.eq_false_or_eq_true c22 with hg28 | hg28
          ·
            rw [hg28] at hb27; simp only [cond_true, cond_false] at hb27
            replace hF := hb27
            refine QL.gy (j := 15) (t := 32) rfl rfl rfl hg28 rfl (Yld.qui (yld_fieldAddr rfl fo_32_4 rfl)) ?_
            refine QL.gy (j := 15) (t := 32) rfl rfl rfl hg28 rfl (Yld.qui (yld_load1 4 rfl ag_24 rfl (Box.cells hb17) rfl rfl)) ?_
            refine QL.gy (j := 15) (t := 32) rfl rfl rfl hg28 rfl (Yld.qui (yld_move rfl rfl)) ?_
            obtain ⟨x29, hy30, hF⟩ := bsome hF
            refine QL.yeg (j := 15) (t := 32) rfl rfl rfl hg28 rfl (ye_index (c := (cInt .i64)) rfl Tryz.underlying24 cn_2 rfl rfl (slRep.old ha6 he15 (Nat.le_refl _)) hy30) ?_
            rintro _ ⟨b31, o32, us33, rfl, hib36, hr34, hcl35⟩
            have hib36 : 0 ≤ b31 ∧ b31 < w.heap.size := ⟨hib36.1, by have := hib36.2; omega⟩
            obtain rfl := hr34
            refine QL.gy (j := 15) (t := 32) rfl rfl rfl hg28 rfl (Yld.qui (yld_load1 0 rfl ag_2 rfl hcl35 rfl rfl)) ?_
            refine QL.gy (j := 15) (t := 32) rfl rfl rfl hg28 rfl (Yld.qui (yld_fieldAddr rfl fo_32_4 rfl)) ?_
            refine QL.gy (j := 15) (t := 32) rfl rfl rfl hg28 rfl (Yld.qui (yld_load1 4 rfl ag_24 rfl (Box.cells hb17) rfl rfl)) ?_
            refine QL.gy (j := 15) (t := 32) rfl rfl rfl hg28 rfl (Yld.qui (yld_move rfl rfl)) ?_
            refine QL.gy (j := 15) (t := 32) rfl rfl rfl hg28 rfl (Yld.qui (yld_move rfl rfl)) ?_
            refine QL.gy (j := 15) (t := 32) rfl rfl rfl hg28 rfl (Yld.qui (yld_conv rfl Tryz.underlying2 Tryz.underlying65 rfl)) ?_
            obtain ⟨hn37, hF⟩ := nneg hF
            refine QL.gy (j := 15) (t := 32) rfl rfl rfl hg28 rfl (Yld.qui (yld_shl rfl rfl rfl hn37)) ?_
            refine QL.gy (j := 15) (t := 32) rfl rfl rfl hg28 rfl (Yld.qui (yld_add rfl rfl rfl)) ?_
            obtain ⟨x38, hy39, hF⟩ := bsome hF
            refine QL.yeg (j := 15) (t := 32) rfl rfl rfl hg28 rfl (ye_index (c := (cInt .i64)) rfl Tryz.underlying24 cn_2 rfl rfl (slRep.old ha6 he15 (Nat.le_refl _)) hy39) ?_
            rintro _ ⟨b40, o41, us42, rfl, hib45, hr43, hcl44⟩
            have hib45 : 0 ≤ b40 ∧ b40 < w.heap.size := ⟨hib45.1, by have := hib45.2; omega⟩
            obtain rfl := hr43
            refine QL.gy (j := 15) (t := 32) rfl rfl rfl hg28 rfl (Yld.qui (yld_load1 0 rfl ag_2 rfl hcl44 rfl rfl)) ?_
            refine QL.gy (j := 15) (t := 32) rfl rfl rfl hg28 rfl (Yld.qui (yld_neq rfl rfl rfl)) ?_
            obtain rfl := Option.some.inj hF
            refine QL.yld rfl rfl (Yld.qui (yld_pick_t rfl rfl hg28 rfl)) ?_
            exact QL.nil fun a h => h.weaken ⟨rfl, rfl, rfl, rfl, rfl, rfl, trivial⟩
          ·
            rw [hg28] at hb27; simp only [cond_true, cond_false] at hb27
            refine QL.gnu (j := 15) (t := 32) rfl rfl rfl hg28 rfl ?_
            refine QL.gnu (j := 15) (t := 32) rfl rfl rfl hg28 rfl ?_
            refine QL.gnu (j := 15) (t := 32) rfl rfl rfl hg28 rfl ?_
            refine QL.gnu (j := 15) (t := 32) rfl rfl rfl hg28 rfl ?_
            refine QL.gnu (j := 15) (t := 32) rfl rfl rfl hg28 rfl ?_
            refine QL.gnu (j := 15) (t := 32) rfl rfl rfl hg28 rfl ?_
            refine QL.gnu (j := 15) (t := 32) rfl rfl rfl hg28 rfl ?_
            refine QL.gnu (j := 15) (t := 32) rfl rfl rfl hg28 rfl ?_
            refine QL.gnu (j := 15) (t := 32) rfl rfl rfl hg28 rfl ?_
            refine QL.gnu (j := 15) (t := 32) rfl rfl rfl hg28 rfl ?_
            refine QL.gnu (j := 15) (t := 32) rfl rfl rfl hg28 rfl ?_
            refine QL.gnu (j := 15) (t := 32) rfl rfl rfl hg28 rfl ?_
            refine QL.gnu (j := 15) (t := 32) rfl rfl rfl hg28 rfl ?_
            refine QL.gnu (j := 15) (t := 32) rfl rfl rfl hg28 rfl ?_
            refine QL.gnu (j := 15) (t := 32) rfl rfl rfl hg28 rfl ?_
            obtain rfl := Option.some.inj hb27
            refine QL.yld rfl rfl (Yld.qui (yld_pick_f rfl rfl hg28 rfl)) ?_
            exact QL.nil fun a h => h.weaken ⟨rfl, rfl, rfl, rfl, rfl, rfl, trivial⟩
        refine QL.done fun w46 hx47 => ?_
        have he48 : Ext w w46 := Ext.trans he15 hx47
        have hb17 := Box.ext hb17 hx47
        have hz49 := (hx47).size
        refine NX.seq ?_
        refine WC.cond rfl ?_ ?_
        · intro hc50
          replace hF := bif_t hc50 hF
          refine WC.seq ?_
          refine WC.region ?_
          refine TL.yld rfl rfl (yld_assign rfl rfl) ?_
          refine TL.done ?_
          refine NX.seq ?_
          refine WC.ret' ?_
          refine NX.blk_r ?_
          refine NX.then_r ?_
          refine NX.then_r ?_
          refine NX.blk_r ?_
          refine NX.then_r ?_
          obtain rfl := Option.some.inj hF
          exact NX.end (rs := [.tmp 8]) (vs := [.bool true]) rfl ⟨rfl, trivial⟩ ⟨_, rfl, rfl, he48⟩
        · intro hc51
          replace hF := bif_f hc51 hF
          refine WC.skip' ?_
          refine NX.blk_n ?_
          refine NX.seq ?_
          refine WC.region ?_
          refine TL.yld rfl rfl (yld_move rfl rfl) ?_
          refine TL.yld rfl rfl (yld_add rfl rfl rfl) ?_
          refine TL.yld rfl rfl (yld_assign rfl rfl) ?_
          refine TL.done ?_
          refine NX.then_n ?_
          intro a hK; exact ⟨m18, Nat.lt_succ_self m18, (IntKind.wrap IntKind.i64 (i16 + 1)), hK.weaken ⟨rfl, rfl, rfl, rfl, rfl, trivial⟩, he48, (by omega), hb17, hF⟩
      · intro hc52
        replace hF := bif_f hc52 hF
        refine WC.exit' ?_
        refine NX.then_e ?_
        refine NX.then_e ?_
        refine NX.blk_hit ?_
        refine NX.seq ?_
        refine WC.seq ?_
        refine WC.region ?_
        refine TL.yld rfl rfl (yld_assign rfl rfl) ?_
        refine TL.done ?_
        refine NX.seq ?_
        refine WC.ret' ?_
        obtain rfl := Option.some.inj hF
        exact NX.end (rs := [.tmp 8]) (vs := [.bool false]) rfl ⟨rfl, trivial⟩ ⟨_, rfl, rfl, he15⟩

-- loop.example/g00861/spec.l17Level
def F_spec_l17Level (n : Nat) (a0_c : S_Cell) (a1_p : Int) (a2_q : Int) : Option Int := (Option.bind (F_spec_l17Passes n a0_c a1_p a2_q 0) fun r14 => (Option.bind (F_spec_l17Passes n a0_c a1_p a2_q 1) fun r16 => (bif (r14 && r16) then (some 2) else (bif r16 then (some 1) else (bif r14 then (some 0) else (some (-1)))))))
set_option maxHeartbeats 40000000 in
theorem W_spec_l17Level {n : Nat} {a0_c : S_Cell} {a1_p : Int} {a2_q : Int} {r : Int} {w : World} {v1 : Value} {v3 : Value} {v5 : Value} (hF : F_spec_l17Level n a0_c a1_p a2_q = some r) (ha2 : slRep C_Pin w (Iv 0 w.heap.size) a0_c.Pins v1) (ha4 : slRep C_Arc w (Iv 0 w.heap.size) a0_c.Arcs v3) (ha6 : slRep (cInt .i64) w (Iv 0 w.heap.size) a0_c.Truth v5) :
    Calls Tryz.prog 14 [.agg #[.string a0_c.Name, .int .i64 a0_c.Kind, v1, v3, v5, .int .i64 a0_c.Leak, .int .i64 a0_c.Energy], .int .i64 a1_p, .int .i64 a2_q].toArray w (Ret fun u w2 => u = .int .i64 r ∧ Ext w w2) := by
  refine calls_of Tryz.func14 rfl Tryz.ntmps14 ?_
  have he0 : Ext w w := Ext.refl w
  unfold F_spec_l17Level at hF
  refine WC.seq ?_
  refine WC.region ?_
  refine TL.eff rfl rfl (eff_box rfl rfl) ?_
  rintro _ w8 ⟨b7, rfl, hn9⟩
  obtain ⟨hn9e, hn9s, hn9x, hb10⟩ := hn9
  have hb10 : Box w8 b7 [.string a0_c.Name, .int .i64 a0_c.Kind, v1, v3, v5, .int .i64 a0_c.Leak, .int .i64 a0_c.Energy] 32 := hb10
  have he12 : Ext w w8 := Ext.trans he0 hn9x
  have hz13 := (hn9x).size
  have hlo11 : w.heap.size ≤ b7 := by rw [hn9e]; exact (he0).size
  refine TL.yld rfl rfl (yld_assign rfl rfl) ?_
  refine TL.done ?_
  refine NX.seq ?_
  refine WC.seq ?_
  refine WC.quiet Tryz.hm (by kernel_rfl) ?_
  refine QL.yld rfl rfl (Yld.qui (yld_loadN (us := [.string a0_c.Name, .int .i64 a0_c.Kind, v1, v3, v5, .int .i64 a0_c.Leak, .int .i64 a0_c.Energy]) rfl ag_32 rfl (Box.cells hb10) cn_32)) ?_
  refine QL.yld rfl rfl (Yld.qui (yld_move rfl rfl)) ?_
  refine QL.yld rfl rfl (Yld.qui (yld_move rfl rfl)) ?_
  obtain ⟨r14, hr15, hF⟩ := bsome hF
  refine QL.yld rfl rfl (qui_call rfl gf_31 rfl fun w' hw' => W_spec_l17Passes hr15 ((((slRep.old ha2 he12 (Nat.le_refl _)).wide (Nat.le_refl _) (he12).size)).mono (fun k h => ⟨h.1, Nat.lt_of_lt_of_le h.2 (hw').size⟩) (fun k h2 => (hw').block k h2.2)) ((((slRep.old ha4 he12 (Nat.le_refl _)).wide (Nat.le_refl _) (he12).size)).mono (fun k h => ⟨h.1, Nat.lt_of_lt_of_le h.2 (hw').size⟩) (fun k h2 => (hw').block k h2.2)) ((((slRep.old ha6 he12 (Nat.le_refl _)).wide (Nat.le_refl _) (he12).size)).mono (fun k h => ⟨h.1, Nat.lt_of_lt_of_le h.2 (hw').size⟩) (fun k h2 => (hw').block k h2.2))) ?_
  refine QL.yld rfl rfl (Yld.qui (yld_loadN (us := [.string a0_c.Name, .int .i64 a0_c.Kind, v1, v3, v5, .int .i64 a0_c.Leak, .int .i64 a0_c.Energy]) rfl ag_32 rfl (Box.cells hb10) cn_32)) ?_
  refine QL.yld rfl rfl (Yld.qui (yld_move rfl rfl)) ?_
  refine QL.yld rfl rfl (Yld.qui (yld_move rfl rfl)) ?_
  obtain ⟨r16, hr17, hF⟩ := bsome hF
  refine QL.yld rfl rfl (qui_call rfl gf_31 rfl fun w' hw' => W_spec_l17Passes hr17 ((((slRep.old ha2 he12 (Nat.le_refl _)).wide (Nat.le_refl _) (he12).size)).mono (fun k h => ⟨h.1, Nat.lt_of_lt_of_le h.2 (hw').size⟩) (fun k h2 => (hw').block k h2.2)) ((((slRep.old ha4 he12 (Nat.le_refl _)).wide (Nat.le_refl _) (he12).size)).mono (fun k h => ⟨h.1, Nat.lt_of_lt_of_le h.2 (hw').size⟩) (fun k h2 => (hw').block k h2.2)) ((((slRep.old ha6 he12 (Nat.le_refl _)).wide (Nat.le_refl _) (he12).size)).mono (fun k h => ⟨h.1, Nat.lt_of_lt_of_le h.2 (hw').size⟩) (fun k h2 => (hw').block k h2.2))) ?_
  refine QL.yld rfl rfl (Yld.qui (yld_assign rfl rfl)) ?_
  refine QL.yld rfl rfl (Yld.qui (yld_assign rfl rfl)) ?_
  refine QL.done fun w18 hx19 => ?_
  have he20 : Ext w w18 := Ext.trans he12 hx19
  have hz21 := (hx19).size
  refine NX.seq ?_
  refine WC.seq ?_
  refine WC.block ?_
  refine WC.seq ?_
  refine WC.region ?_
  refine TL.yld rfl rfl (yld_move rfl rfl) ?_
  refine TL.yld rfl rfl (yld_move rfl rfl) ?_
  refine TL.cut 2 [(7, .bool r14), (8, .bool r16), (21, .bool ((r14 && r16)))] (fun w' => Ext w18 w') ?_ ?_
  · rcases Bool.eq_false_or_eq_true r14 with hg22 | hg22
    ·
      refine TL.gy (j := 1) (t := 19) rfl rfl rfl hg22 rfl (yld_move rfl rfl) ?_
      refine TL.yld rfl rfl (yld_and_t rfl rfl hg22 rfl) ?_
      exact TL.nil fun a h => ⟨h.weaken ⟨rfl, rfl, rfl, trivial⟩, Ext.refl _⟩
    ·
      refine TL.gnu (j := 1) (t := 19) rfl rfl rfl hg22 rfl ?_
      refine TL.yld rfl rfl (yld_and_f (b2 := r16) rfl rfl hg22 rfl) ?_
      exact TL.nil fun a h => ⟨h.weaken ⟨rfl, rfl, rfl, trivial⟩, Ext.refl _⟩
  intro w23 hx24
  have he25 : Ext w w23 := Ext.trans he20 hx24
  have hz26 := (hx24).size
  refine TL.yld rfl rfl (yld_assign rfl rfl) ?_
  refine TL.done ?_
  refine NX.seq ?_
  refine WC.cond rfl ?_ ?_
  · intro hc27
    replace hF := bif_t hc27 hF
    refine WC.seq ?_
    refine WC.region ?_
    refine TL.yld rfl rfl (yld_assign rfl rfl) ?_
    refine TL.done ?_
    refine NX.seq ?_
    refine WC.ret' ?_
    refine NX.blk_r ?_
    refine NX.then_r ?_
    obtain rfl := Option.some.inj hF
    exact NX.end (rs := [.tmp 6]) (vs := [.int .i64 2]) rfl ⟨rfl, trivial⟩ ⟨_, rfl, rfl, he25⟩
  · intro hc28
    replace hF := bif_f hc28 hF
    refine WC.seq ?_
    refine WC.region ?_
    refine TL.yld rfl rfl (yld_move rfl rfl) ?_
    refine TL.yld rfl rfl (yld_assign rfl rfl) ?_
    refine TL.done ?_
    refine NX.seq ?_
    refine WC.cond rfl ?_ ?_
    · intro hc29
      replace hF := bif_t hc29 hF
      refine WC.seq ?_
      refine WC.region ?_
      refine TL.yld rfl rfl (yld_assign rfl rfl) ?_
      refine TL.done ?_
      refine NX.seq ?_
      refine WC.ret' ?_
      refine NX.blk_r ?_
      refine NX.then_r ?_
      obtain rfl := Option.some.inj hF
      exact NX.end (rs := [.tmp 6]) (vs := [.int .i64 1]) rfl ⟨rfl, trivial⟩ ⟨_, rfl, rfl, he25⟩
    · intro hc30
      replace hF := bif_f hc30 hF
      refine WC.seq ?_
      refine WC.region ?_
      refine TL.yld rfl rfl (yld_move rfl rfl) ?_
      refine TL.yld rfl rfl (yld_assign rfl rfl) ?_
      refine TL.done ?_
      refine NX.seq ?_
      refine WC.cond rfl ?_ ?_
      · intro hc31
        replace hF := bif_t hc31 hF
        refine WC.seq ?_
        refine WC.region ?_
        refine TL.yld rfl rfl (yld_assign rfl rfl) ?_
        refine TL.done ?_
        refine NX.seq ?_
        refine WC.ret' ?_
        refine NX.blk_r ?_
        refine NX.then_r ?_
        obtain rfl := Option.some.inj hF
        exact NX.end (rs := [.tmp 6]) (vs := [.int .i64 0]) rfl ⟨rfl, trivial⟩ ⟨_, rfl, rfl, he25⟩
      · intro hc32
        replace hF := bif_f hc32 hF
        refine WC.skip' ?_
        refine NX.blk_n ?_
        refine NX.seq ?_
        refine WC.seq ?_
        refine WC.region ?_
        refine TL.yld rfl rfl (yld_assign rfl rfl) ?_
        refine TL.done ?_
        refine NX.seq ?_
        refine WC.ret' ?_
        obtain rfl := Option.some.inj hF
        exact NX.end (rs := [.tmp 6]) (vs := [.int .i64 (-1)]) rfl ⟨rfl, trivial⟩ ⟨_, rfl, rfl, he25⟩

-- loop.example/g00861/spec.ActiveLevel
def F_spec_ActiveLevel (n : Nat) (a0_c : S_Cell) (a1_p : Int) (a2_q : Int) : Option Int := (Option.bind (F_spec_IsCell n a0_c) fun r14 => (Option.bind (bif (!r14) then (some true) else (Option.bind (F_spec_l17Inputs n a0_c a1_p a2_q) fun r20 => (some (!r20)))) fun c20 => (bif c20 then (some (-2)) else (Option.bind (F_spec_l17Level n a0_c a1_p a2_q) fun r35 => (some r35)))))
set_option maxHeartbeats 40000000 in
theorem W_spec_ActiveLevel {n : Nat} {a0_c : S_Cell} {a1_p : Int} {a2_q : Int} {r : Int} {w : World} {v1 : Value} {v3 : Value} {v5 : Value} (hF : F_spec_ActiveLevel n a0_c a1_p a2_q = some r) (ha2 : slRep C_Pin w (Iv 0 w.heap.size) a0_c.Pins v1) (ha4 : slRep C_Arc w (Iv 0 w.heap.size) a0_c.Arcs v3) (ha6 : slRep (cInt .i64) w (Iv 0 w.heap.size) a0_c.Truth v5) :
    Calls Tryz.prog 5 [.agg #[.string a0_c.Name, .int .i64 a0_c.Kind, v1, v3, v5, .int .i64 a0_c.Leak, .int .i64 a0_c.Energy], .int .i64 a1_p, .int .i64 a2_q].toArray w (Ret fun u w2 => u = .int .i64 r ∧ Ext w w2) := by
  refine calls_of Tryz.func5 rfl Tryz.ntmps5 ?_
  have he0 : Ext w w := Ext.refl w
  unfold F_spec_ActiveLevel at hF
  refine WC.seq ?_
  refine WC.region ?_
  refine TL.eff rfl rfl (eff_box rfl rfl) ?_
  rintro _ w8 ⟨b7, rfl, hn9⟩
  obtain ⟨hn9e, hn9s, hn9x, hb10⟩ := hn9
  have hb10 : Box w8 b7 [.string a0_c.Name, .int .i64 a0_c.Kind, v1, v3, v5, .int .i64 a0_c.Leak, .int .i64 a0_c.Energy] 32 := hb10
  have he12 : Ext w w8 := Ext.trans he0 hn9x
  have hz13 := (hn9x).size
  have hlo11 : w.heap.size ≤ b7 := by rw [hn9e]; exact (he0).size
  refine TL.yld rfl rfl (yld_assign rfl rfl) ?_
  refine TL.done ?_
  refine NX.seq ?_
  refine WC.seq ?_
  refine WC.seq ?_
  refine WC.region ?_
  refine TL.yld rfl rfl (yld_loadN (us := [.string a0_c.Name, .int .i64 a0_c.Kind, v1, v3, v5, .int .i64 a0_c.Leak, .int .i64 a0_c.Energy]) rfl ag_32 rfl (Box.cells hb10) cn_32) ?_
  obtain ⟨r14, hr15, hF⟩ := bsome hF
  refine TL.eff rfl rfl (eff_call rfl gf_12 rfl (W_spec_IsCell hr15 ((slRep.old ha2 he12 (Nat.le_refl _)).wide (Nat.le_refl _) (he12).size) ((slRep.old ha4 he12 (Nat.le_refl _)).wide (Nat.le_refl _) (he12).size) ((slRep.old ha6 he12 (Nat.le_refl _)).wide (Nat.le_refl _) (he12).size))) ?_
  rintro _ w16 ⟨rfl, hx17⟩
  have he18 : Ext w w16 := Ext.trans he12 hx17
  have hb10 := Box.ext hb10 hx17
  have hz19 := (hx17).size
  refine TL.yld rfl rfl (yld_not rfl rfl) ?_
  refine TL.yld rfl rfl (yld_move rfl rfl) ?_
  obtain ⟨c20, hb21, hF⟩ := bsome hF
  refine TL.cut 6 [(1, .int .i64 a1_p), (2, .int .i64 a2_q), (3, .pointer (some ⟨b7, 0, none⟩)), (16, .bool c20)] (fun w' => Ext w16 w') ?_ ?_
  · rcases Bool.eq_false_or_eq_true (!r14) with hg22 | hg22
    ·
      rw [hg22] at hb21; simp only [cond_true, cond_false] at hb21
      refine TL.gnu (j := 3) (t := 10) rfl rfl rfl hg22 rfl ?_
      refine TL.gnu (j := 3) (t := 10) rfl rfl rfl hg22 rfl ?_
      refine TL.gnu (j := 3) (t := 10) rfl rfl rfl hg22 rfl ?_
      refine TL.gnu (j := 3) (t := 10) rfl rfl rfl hg22 rfl ?_
      refine TL.gnu (j := 3) (t := 10) rfl rfl rfl hg22 rfl ?_
      obtain rfl := Option.some.inj hb21
      refine TL.yld rfl rfl (yld_pick_t rfl rfl hg22 rfl) ?_
      exact TL.nil fun a h => ⟨h.weaken ⟨rfl, rfl, rfl, rfl, trivial⟩, Ext.refl _⟩
    ·
      rw [hg22] at hb21; simp only [cond_true, cond_false] at hb21
      replace hF := hb21
      refine TL.gy (j := 3) (t := 10) rfl rfl rfl hg22 rfl (yld_loadN (us := [.string a0_c.Name, .int .i64 a0_c.Kind, v1, v3, v5, .int .i64 a0_c.Leak, .int .i64 a0_c.Energy]) rfl ag_32 rfl (Box.cells hb10) cn_32) ?_
      refine TL.gy (j := 3) (t := 10) rfl rfl rfl hg22 rfl (yld_move rfl rfl) ?_
      refine TL.gy (j := 3) (t := 10) rfl rfl rfl hg22 rfl (yld_move rfl rfl) ?_
      obtain ⟨r23, hr24, hF⟩ := bsome hF
      refine TL.ge (j := 3) (t := 10) rfl rfl rfl hg22 rfl (eff_call rfl gf_13 rfl (W_spec_l17Inputs hr24 ((slRep.old ha2 he18 (Nat.le_refl _)).wide (Nat.le_refl _) (he18).size) ((slRep.old ha4 he18 (Nat.le_refl _)).wide (Nat.le_refl _) (he18).size) ((slRep.old ha6 he18 (Nat.le_refl _)).wide (Nat.le_refl _) (he18).size))) ?_
      rintro _ w25 ⟨rfl, hx26⟩
      have hb10 := Box.ext hb10 hx26
      have hz28 := (hx26).size
      refine TL.gy (j := 3) (t := 10) rfl rfl rfl hg22 rfl (yld_not rfl rfl) ?_
      obtain rfl := Option.some.inj hF
      refine TL.yld rfl rfl (yld_pick_f rfl rfl hg22 rfl) ?_
      exact TL.nil fun a h => ⟨h.weaken ⟨rfl, rfl, rfl, rfl, trivial⟩, hx26⟩
  intro w29 hx30
  have he31 : Ext w w29 := Ext.trans he18 hx30
  have hb10 := Box.ext hb10 hx30
  have hz32 := (hx30).size
  refine TL.done ?_
  refine NX.seq ?_
  refine WC.cond rfl ?_ ?_
  · intro hc33
    replace hF := bif_t hc33 hF
    refine WC.seq ?_
    refine WC.region ?_
    refine TL.yld rfl rfl (yld_assign rfl rfl) ?_
    refine TL.done ?_
    refine NX.seq ?_
    refine WC.ret' ?_
    refine NX.then_r ?_
    obtain rfl := Option.some.inj hF
    exact NX.end (rs := [.tmp 6]) (vs := [.int .i64 (-2)]) rfl ⟨rfl, trivial⟩ ⟨_, rfl, rfl, he31⟩
  · intro hc34
    replace hF := bif_f hc34 hF
    refine WC.skip' ?_
    refine NX.seq ?_
    refine WC.seq ?_
    refine WC.region ?_
    refine TL.yld rfl rfl (yld_loadN (us := [.string a0_c.Name, .int .i64 a0_c.Kind, v1, v3, v5, .int .i64 a0_c.Leak, .int .i64 a0_c.Energy]) rfl ag_32 rfl (Box.cells hb10) cn_32) ?_
    refine TL.yld rfl rfl (yld_move rfl rfl) ?_
    refine TL.yld rfl rfl (yld_move rfl rfl) ?_
    obtain ⟨r35, hr36, hF⟩ := bsome hF
    refine TL.eff rfl rfl (eff_call rfl gf_14 rfl (W_spec_l17Level hr36 ((slRep.old ha2 he31 (Nat.le_refl _)).wide (Nat.le_refl _) (he31).size) ((slRep.old ha4 he31 (Nat.le_refl _)).wide (Nat.le_refl _) (he31).size) ((slRep.old ha6 he31 (Nat.le_refl _)).wide (Nat.le_refl _) (he31).size))) ?_
    rintro _ w37 ⟨rfl, hx38⟩
    have he39 : Ext w w37 := Ext.trans he31 hx38
    have hz40 := (hx38).size
    refine TL.yld rfl rfl (yld_assign rfl rfl) ?_
    refine TL.done ?_
    refine NX.seq ?_
    refine WC.ret' ?_
    obtain rfl := Option.some.inj hF
    exact NX.end (rs := [.tmp 6]) (vs := [.int .i64 r35]) rfl ⟨rfl, trivial⟩ ⟨_, rfl, rfl, he39⟩

-- loop.example/g00861/laws.toPin
def F_laws_toPin (n : Nat) (a0_a : S_Pin) : Option S_Pin := (some a0_a)
set_option maxHeartbeats 40000000 in
theorem W_laws_toPin {n : Nat} {a0_a : S_Pin} {r : S_Pin} {w : World} (hF : F_laws_toPin n a0_a = some r) :
    Calls Tryz.prog 32 [.agg #[.string a0_a.Name, .int .i64 a0_a.Dir, .int .i64 a0_a.Cap, .bool a0_a.Clock]].toArray w (Ret fun u w2 => u = .agg #[.string r.Name, .int .i64 r.Dir, .int .i64 r.Cap, .bool r.Clock] ∧ Ext w w2) := by
  refine calls_of Tryz.func32 rfl Tryz.ntmps32 ?_
  have he0 : Ext w w := Ext.refl w
  unfold F_laws_toPin at hF
  refine WC.seq ?_
  refine WC.region ?_
  refine TL.eff rfl rfl (eff_box rfl rfl) ?_
  rintro _ w2 ⟨b1, rfl, hn3⟩
  obtain ⟨hn3e, hn3s, hn3x, hb4⟩ := hn3
  have hb4 : Box w2 b1 [.string a0_a.Name, .int .i64 a0_a.Dir, .int .i64 a0_a.Cap, .bool a0_a.Clock] 51 := hb4
  have he6 : Ext w w2 := Ext.trans he0 hn3x
  have hz7 := (hn3x).size
  have hlo5 : w.heap.size ≤ b1 := by rw [hn3e]; exact (he0).size
  refine TL.eff rfl rfl (eff_alloc rfl zn_67) ?_
  rintro _ w9 ⟨b8, rfl, hn10⟩
  obtain ⟨hn10e, hn10s, hn10x, hb11⟩ := hn10
  have hb11 : Box w9 b8 [.string ByteArray.empty, .int .i64 0, .int .i64 0, .bool false] 67 := hb11
  have he13 : Ext w w9 := Ext.trans he6 hn10x
  have hb4 := Box.ext hb4 hn10x
  have hz14 := (hn10x).size
  have hlo12 : w.heap.size ≤ b8 := by rw [hn10e]; exact (he6).size
  refine TL.done ?_
  refine NX.seq ?_
  refine WC.seq ?_
  refine WC.region ?_
  refine TL.eff rfl rfl (eff_alloc rfl zn_67) ?_
  rintro _ w16 ⟨b15, rfl, hn17⟩
  obtain ⟨hn17e, hn17s, hn17x, hb18⟩ := hn17
  have hb18 : Box w16 b15 [.string ByteArray.empty, .int .i64 0, .int .i64 0, .bool false] 67 := hb18
  have he20 : Ext w w16 := Ext.trans he13 hn17x
  have hb4 := Box.ext hb4 hn17x
  have hb11 := Box.ext hb11 hn17x
  have hz21 := (hn17x).size
  have hlo19 : w.heap.size ≤ b15 := by rw [hn17e]; exact (he13).size
  refine TL.done ?_
  refine NX.seq ?_
  refine WC.seq ?_
  refine WC.region ?_
  refine TL.yld rfl rfl (yld_fieldAddr rfl fo_51_0 rfl) ?_
  refine TL.yld rfl rfl (yld_load1 0 rfl ag_9 rfl (Box.cells hb4) rfl rfl) ?_
  refine TL.yld rfl rfl (yld_fieldAddr rfl fo_67_0 rfl) ?_
  refine TL.eff rfl rfl (eff_store rfl rfl rfl hb18 cn_9 rfl rfl) ?_
  rintro _ w22 ⟨hu23, hb24⟩
  have he25 : Ext w w22 := Below.trans he20 (Upd.below hu23 (by omega))
  have hb4 := Box.upd hb4 hu23 (by omega)
  have hb11 := Box.upd hb11 hu23 (by omega)
  have hz26 := (hu23).size
  have hb18 : Box w22 b15 [.string a0_a.Name, .int .i64 0, .int .i64 0, .bool false] 67 := hb24
  refine TL.done ?_
  refine NX.seq ?_
  refine WC.seq ?_
  refine WC.region ?_
  refine TL.yld rfl rfl (yld_fieldAddr rfl fo_51_1 rfl) ?_
  refine TL.yld rfl rfl (yld_load1 1 rfl ag_2 rfl (Box.cells hb4) rfl rfl) ?_
  refine TL.yld rfl rfl (yld_fieldAddr rfl fo_67_1 rfl) ?_
  refine TL.eff rfl rfl (eff_store rfl rfl rfl hb18 cn_2 rfl rfl) ?_
  rintro _ w27 ⟨hu28, hb29⟩
  have he30 : Ext w w27 := Below.trans he25 (Upd.below hu28 (by omega))
  have hb4 := Box.upd hb4 hu28 (by omega)
  have hb11 := Box.upd hb11 hu28 (by omega)
  have hz31 := (hu28).size
  have hb18 : Box w27 b15 [.string a0_a.Name, .int .i64 a0_a.Dir, .int .i64 0, .bool false] 67 := hb29
  refine TL.done ?_
  refine NX.seq ?_
  refine WC.seq ?_
  refine WC.region ?_
  refine TL.yld rfl rfl (yld_fieldAddr rfl fo_51_2 rfl) ?_
  refine TL.yld rfl rfl (yld_load1 2 rfl ag_2 rfl (Box.cells hb4) rfl rfl) ?_
  refine TL.yld rfl rfl (yld_fieldAddr rfl fo_67_2 rfl) ?_
  refine TL.eff rfl rfl (eff_store rfl rfl rfl hb18 cn_2 rfl rfl) ?_
  rintro _ w32 ⟨hu33, hb34⟩
  have he35 : Ext w w32 := Below.trans he30 (Upd.below hu33 (by omega))
  have hb4 := Box.upd hb4 hu33 (by omega)
  have hb11 := Box.upd hb11 hu33 (by omega)
  have hz36 := (hu33).size
  have hb18 : Box w32 b15 [.string a0_a.Name, .int .i64 a0_a.Dir, .int .i64 a0_a.Cap, .bool false] 67 := hb34
  refine TL.done ?_
  refine NX.seq ?_
  refine WC.seq ?_
  refine WC.region ?_
  refine TL.yld rfl rfl (yld_fieldAddr rfl fo_51_3 rfl) ?_
  refine TL.yld rfl rfl (yld_load1 3 rfl ag_4 rfl (Box.cells hb4) rfl rfl) ?_
  refine TL.yld rfl rfl (yld_fieldAddr rfl fo_67_3 rfl) ?_
  refine TL.eff rfl rfl (eff_store rfl rfl rfl hb18 cn_4 rfl rfl) ?_
  rintro _ w37 ⟨hu38, hb39⟩
  have he40 : Ext w w37 := Below.trans he35 (Upd.below hu38 (by omega))
  have hb11 := Box.upd hb11 hu38 (by omega)
  have hz41 := (hu38).size
  have hb18 : Box w37 b15 [.string a0_a.Name, .int .i64 a0_a.Dir, .int .i64 a0_a.Cap, .bool a0_a.Clock] 67 := hb39
  refine TL.done ?_
  refine NX.seq ?_
  refine WC.seq ?_
  refine WC.region ?_
  refine TL.yld rfl rfl (yld_loadN (us := [.string a0_a.Name, .int .i64 a0_a.Dir, .int .i64 a0_a.Cap, .bool a0_a.Clock]) rfl ag_67 rfl (Box.cells hb18) cn_67) ?_
  refine TL.eff rfl rfl (eff_store rfl rfl rfl hb11 cn_67 rfl rfl) ?_
  rintro _ w42 ⟨hu43, hb44⟩
  have he45 : Ext w w42 := Below.trans he40 (Upd.below hu43 (by omega))
  have hz46 := (hu43).size
  have hb11 : Box w42 b8 [.string a0_a.Name, .int .i64 a0_a.Dir, .int .i64 a0_a.Cap, .bool a0_a.Clock] 67 := hb44
  refine TL.done ?_
  refine NX.seq ?_
  refine WC.ret' ?_
  obtain rfl := Option.some.inj hF
  exact NX.end (rs := [.cell 2 67]) (vs := [.agg #[.string a0_a.Name, .int .i64 a0_a.Dir, .int .i64 a0_a.Cap, .bool a0_a.Clock]]) rfl ⟨⟨b8, rfl, box_load ag_67 cn_67 hb11⟩, trivial⟩ ⟨_, rfl, rfl, he45⟩

-- loop.example/g00861/laws.toPinS
def F_laws_toPinS_L1 (n : Nat) (a0_a : List S_Pin) (k0 : Int → (List S_Pin) → Option (List S_Pin)) : Nat → Int → (List S_Pin) → Option (List S_Pin)
  | 0 => fun _ _ => none
  | m + 1 => fun i20 l21 => (bif decide (i20 < (a0_a.length : Int)) then (Option.bind (getI a0_a i20) fun x24 => (Option.bind (F_laws_toPin n x24) fun r32 => (Option.bind (getI l21 i20) fun x38 => (F_laws_toPinS_L1 n a0_a k0 m (IntKind.wrap IntKind.i64 (i20 + 1)) ((l21.set (i20).toNat r32)))))) else (k0 i20 l21))
theorem F_laws_toPinS_L1_z (n : Nat) (a0_a : List S_Pin) (k0 : Int → (List S_Pin) → Option (List S_Pin)) (i20 : Int) (l21 : List S_Pin) : F_laws_toPinS_L1 n a0_a k0 0 i20 l21 = none := rfl
theorem F_laws_toPinS_L1_s (m : Nat) (n : Nat) (a0_a : List S_Pin) (k0 : Int → (List S_Pin) → Option (List S_Pin)) (i20 : Int) (l21 : List S_Pin) : F_laws_toPinS_L1 n a0_a k0 (m + 1) i20 l21 = (bif decide (i20 < (a0_a.length : Int)) then (Option.bind (getI a0_a i20) fun x24 => (Option.bind (F_laws_toPin n x24) fun r32 => (Option.bind (getI l21 i20) fun x38 => (F_laws_toPinS_L1 n a0_a k0 m (IntKind.wrap IntKind.i64 (i20 + 1)) ((l21.set (i20).toNat r32)))))) else (k0 i20 l21)) := rfl

def F_laws_toPinS (n : Nat) (a0_a : List S_Pin) : Option (List S_Pin) := (Option.bind (mkN ((a0_a.length : Int)) 40) fun n3 => (F_laws_toPinS_L1 n a0_a (fun i20 l21 => (some l21)) n 0 (List.replicate n3 ((S_Pin.mk ByteArray.empty 0 0 false)))))
set_option maxHeartbeats 40000000 in
theorem W_laws_toPinS {n : Nat} {a0_a : List S_Pin} {r : List S_Pin} {w : World} {v1 : Value} (hF : F_laws_toPinS n a0_a = some r) (ha2 : slRep C_Pin w (Iv 0 w.heap.size) a0_a v1) :
    Calls Tryz.prog 15 [v1].toArray w (Ret fun u w2 => ∃ v0_0, u = v0_0 ∧ ownR C_Pin w2 w.heap.size (Iv 0 0) 67 r v0_0 ∧ Ext w w2) := by
  refine calls_of Tryz.func15 rfl Tryz.ntmps15 ?_
  have he0 : Ext w w := Ext.refl w
  unfold F_laws_toPinS at hF
  refine WC.seq ?_
  refine WC.region ?_
  refine TL.yld rfl rfl (yld_assign rfl rfl) ?_
  refine TL.done ?_
  refine NX.seq ?_
  refine WC.seq ?_
  refine WC.region ?_
  refine TL.yld rfl rfl (yld_move rfl rfl) ?_
  refine TL.yld rfl rfl (ye_len (c := C_Pin) rfl Tryz.underlying22 rfl (slRep.old ha2 he0 (Nat.le_refl _))) ?_
  obtain ⟨n3, hk4, hF⟩ := bsome hF
  refine TL.eff rfl rfl (eff_make (c := C_Pin) (z := (S_Pin.mk ByteArray.empty 0 0 false)) rfl Tryz.underlying29 in_67 rfl rfl rfl hk4 rfl rfl (fun _ => C_Pin_mk)) ?_
  rintro v5 w6 ⟨g7, hv8, hg9, hz10, hx11, hs12⟩
  have he13 : Ext w w6 := Ext.trans he0 hx11
  have hz14 := (hx11).size
  have hlo15 : w.heap.size ≤ g7 := by rw [hg9]; exact (he0).size
  have hbd16 := bd_of hv8
  clear hv8
  refine TL.yld rfl rfl (yld_assign rfl rfl) ?_
  refine TL.done ?_
  refine NX.seq ?_
  refine WC.seq ?_
  refine WC.seq ?_
  refine WC.region ?_
  refine TL.yld rfl rfl (yld_assign rfl rfl) ?_
  refine TL.done ?_
  refine NX.seq ?_
  refine WC.block ?_
  refine WC.loop (fun m23 a wl => ∃ (i20 : Int) (l21 : List S_Pin), Kn 23 [(0, v1), (3, v5), (4, .int .i64 i20)] a ∧ Ext w wl ∧ w6.heap.size ≤ wl.heap.size ∧ ownR C_Pin wl (g7) (Iv 0 0) 67 l21 v5 ∧ F_laws_toPinS_L1 n a0_a (fun i20 l21 => (some l21)) m23 i20 l21 = some r) n ?_ ?_
  · intro a hK; exact ⟨0, (List.replicate n3 ((S_Pin.mk ByteArray.empty 0 0 false))), hK.weaken ⟨rfl, rfl, rfl, trivial⟩, he13, Nat.le_refl _, hs12, hF⟩
  · rintro m23 a w18 ⟨i20, l21, hK, he19, hz24, hs22, hF⟩
    revert hK; revert a; refine (?_ : WC _ _ _ _ _ _)
    cases m23 with
    | zero => rw [F_laws_toPinS_L1_z] at hF; cases hF
    | succ m23 =>
      rw [F_laws_toPinS_L1_s] at hF
      refine WC.seq ?_
      refine WC.seq ?_
      refine WC.region ?_
      refine TL.yld rfl rfl (yld_move rfl rfl) ?_
      refine TL.yld rfl rfl (yld_move rfl rfl) ?_
      refine TL.yld rfl rfl (ye_len (c := C_Pin) rfl Tryz.underlying22 rfl (slRep.old ha2 he19 (Nat.le_refl _))) ?_
      refine TL.yld rfl rfl (yld_lss rfl rfl rfl) ?_
      refine TL.done ?_
      refine NX.seq ?_
      refine WC.cond rfl ?_ ?_
      · intro hc25
        replace hF := bif_t hc25 hF
        refine WC.skip' ?_
        refine NX.seq ?_
        refine WC.seq ?_
        refine WC.block ?_
        refine WC.region ?_
        refine TL.yld rfl rfl (yld_move rfl rfl) ?_
        refine TL.yld rfl rfl (yld_move rfl rfl) ?_
        refine TL.yld rfl rfl (yld_move rfl rfl) ?_
        refine TL.yld rfl rfl (yld_move rfl rfl) ?_
        obtain ⟨x26, hy27, hF⟩ := bsome hF
        refine TL.ye rfl rfl (ye_index (c := C_Pin) rfl Tryz.underlying22 cn_51 rfl rfl (slRep.old ha2 he19 (Nat.le_refl _)) hy27) ?_
        rintro _ ⟨b28, o29, us30, rfl, hib33, hr31, hcl32⟩
        have hib33 : 0 ≤ b28 ∧ b28 < w.heap.size := ⟨hib33.1, by have := hib33.2; omega⟩
        obtain rfl := C_Pin_open hr31
        refine TL.yld rfl rfl (yld_loadN (us := [.string x26.Name, .int .i64 x26.Dir, .int .i64 x26.Cap, .bool x26.Clock]) rfl ag_51 rfl hcl32 cn_51) ?_
        obtain ⟨r34, hr35, hF⟩ := bsome hF
        refine TL.eff rfl rfl (eff_call rfl gf_32 rfl (W_laws_toPin hr35)) ?_
        rintro _ w36 ⟨rfl, hx37⟩
        have he38 : Ext w w36 := Ext.trans he19 hx37
        have hs22 := ownR.ext hs22 hx37
        have hz39 := (hx37).size
        obtain ⟨x40, hy41, hF⟩ := bsome hF
        refine TL.ye rfl rfl (ye_index_own (c := C_Pin) rfl Tryz.underlying29 cn_67 rfl rfl hs22 hy41) ?_
        rintro _ ⟨g42, us44, rfl, hg43, hr45, hcl46⟩
        have hr45r := hr45
        obtain rfl := C_Pin_open hr45
        refine TL.eff rfl rfl (eff_store_own (c := C_Pin) (us' := [.string r34.Name, .int .i64 r34.Dir, .int .i64 r34.Cap, .bool r34.Clock]) (y' := r34) 0 _ rfl rfl rfl hs22 hg43 hy41 rfl cn_67 rfl hr45r hcl46 rfl rfl C_Pin_mk (fun k h => absurd h.2 (Nat.not_lt_zero k))) ?_
        rintro _ w47 ⟨hu48, hs49⟩
        have he50 : Ext w w47 := Below.trans he38 (Upd.below hu48 (by have := hbd16 _ hg43; omega))
        have hz51 := (hu48).size
        refine TL.done ?_
        refine NX.blk_n ?_
        refine NX.seq ?_
        refine WC.region ?_
        refine TL.yld rfl rfl (yld_move rfl rfl) ?_
        refine TL.yld rfl rfl (yld_add rfl rfl rfl) ?_
        refine TL.yld rfl rfl (yld_assign rfl rfl) ?_
        refine TL.done ?_
        refine NX.then_n ?_
        intro a hK; exact ⟨m23, Nat.lt_succ_self m23, (IntKind.wrap IntKind.i64 (i20 + 1)), ((l21.set (i20).toNat r34)), hK.weaken ⟨rfl, rfl, rfl, trivial⟩, he50, (by omega), hs49, hF⟩
      · intro hc52
        replace hF := bif_f hc52 hF
        refine WC.exit' ?_
        refine NX.then_e ?_
        refine NX.then_e ?_
        refine NX.blk_hit ?_
        refine NX.seq ?_
        refine WC.seq ?_
        refine WC.region ?_
        refine TL.yld rfl rfl (yld_move rfl rfl) ?_
        refine TL.yld rfl rfl (yld_assign rfl rfl) ?_
        refine TL.done ?_
        refine NX.seq ?_
        refine WC.ret' ?_
        obtain rfl := Option.some.inj hF
        exact NX.end (rs := [.tmp 2]) (vs := [v5]) rfl ⟨rfl, trivial⟩ ⟨_, rfl, _, rfl, ownR.base hs22 (by omega), he19⟩

-- loop.example/g00861/laws.toInt64S
def F_laws_toInt64S_L1 (a0_a : List Int) (k0 : Int → (List Int) → Option (List Int)) : Nat → Int → (List Int) → Option (List Int)
  | 0 => fun _ _ => none
  | m + 1 => fun i20 l21 => (bif decide (i20 < (a0_a.length : Int)) then (Option.bind (getI a0_a i20) fun x24 => (Option.bind (getI l21 i20) fun x32 => (F_laws_toInt64S_L1 a0_a k0 m (IntKind.wrap IntKind.i64 (i20 + 1)) ((l21.set (i20).toNat x24))))) else (k0 i20 l21))
theorem F_laws_toInt64S_L1_z (a0_a : List Int) (k0 : Int → (List Int) → Option (List Int)) (i20 : Int) (l21 : List Int) : F_laws_toInt64S_L1 a0_a k0 0 i20 l21 = none := rfl
theorem F_laws_toInt64S_L1_s (m : Nat) (a0_a : List Int) (k0 : Int → (List Int) → Option (List Int)) (i20 : Int) (l21 : List Int) : F_laws_toInt64S_L1 a0_a k0 (m + 1) i20 l21 = (bif decide (i20 < (a0_a.length : Int)) then (Option.bind (getI a0_a i20) fun x24 => (Option.bind (getI l21 i20) fun x32 => (F_laws_toInt64S_L1 a0_a k0 m (IntKind.wrap IntKind.i64 (i20 + 1)) ((l21.set (i20).toNat x24))))) else (k0 i20 l21)) := rfl

def F_laws_toInt64S (n : Nat) (a0_a : List Int) : Option (List Int) := (Option.bind (mkN ((a0_a.length : Int)) 8) fun n3 => (F_laws_toInt64S_L1 a0_a (fun i20 l21 => (some l21)) n 0 (List.replicate n3 0)))
set_option maxHeartbeats 40000000 in
theorem W_laws_toInt64S {n : Nat} {a0_a : List Int} {r : List Int} {w : World} {v1 : Value} (hF : F_laws_toInt64S n a0_a = some r) (ha2 : slRep (cInt .i64) w (Iv 0 w.heap.size) a0_a v1) :
    Calls Tryz.prog 17 [v1].toArray w (Ret fun u w2 => ∃ v0_0, u = v0_0 ∧ ownR (cInt .i64) w2 w.heap.size (Iv 0 0) 2 r v0_0 ∧ Ext w w2) := by
  refine calls_of Tryz.func17 rfl Tryz.ntmps17 ?_
  have he0 : Ext w w := Ext.refl w
  unfold F_laws_toInt64S at hF
  refine WC.seq ?_
  refine WC.region ?_
  refine TL.yld rfl rfl (yld_assign rfl rfl) ?_
  refine TL.done ?_
  refine NX.seq ?_
  refine WC.seq ?_
  refine WC.region ?_
  refine TL.yld rfl rfl (yld_move rfl rfl) ?_
  refine TL.yld rfl rfl (ye_len (c := (cInt .i64)) rfl Tryz.underlying24 rfl (slRep.old ha2 he0 (Nat.le_refl _))) ?_
  obtain ⟨n3, hk4, hF⟩ := bsome hF
  refine TL.eff rfl rfl (eff_make (c := (cInt .i64)) (z := 0) rfl Tryz.underlying24 in_2 rfl rfl rfl hk4 rfl rfl (fun _ => rfl)) ?_
  rintro v5 w6 ⟨g7, hv8, hg9, hz10, hx11, hs12⟩
  have he13 : Ext w w6 := Ext.trans he0 hx11
  have hz14 := (hx11).size
  have hlo15 : w.heap.size ≤ g7 := by rw [hg9]; exact (he0).size
  have hbd16 := bd_of hv8
  clear hv8
  refine TL.yld rfl rfl (yld_assign rfl rfl) ?_
  refine TL.done ?_
  refine NX.seq ?_
  refine WC.seq ?_
  refine WC.seq ?_
  refine WC.region ?_
  refine TL.yld rfl rfl (yld_assign rfl rfl) ?_
  refine TL.done ?_
  refine NX.seq ?_
  refine WC.block ?_
  refine WC.loop (fun m23 a wl => ∃ (i20 : Int) (l21 : List Int), Kn 22 [(0, v1), (3, v5), (4, .int .i64 i20)] a ∧ Ext w wl ∧ w6.heap.size ≤ wl.heap.size ∧ ownR (cInt .i64) wl (g7) (Iv 0 0) 2 l21 v5 ∧ F_laws_toInt64S_L1 a0_a (fun i20 l21 => (some l21)) m23 i20 l21 = some r) n ?_ ?_
  · intro a hK; exact ⟨0, (List.replicate n3 0), hK.weaken ⟨rfl, rfl, rfl, trivial⟩, he13, Nat.le_refl _, hs12, hF⟩
  · rintro m23 a w18 ⟨i20, l21, hK, he19, hz24, hs22, hF⟩
    revert hK; revert a; refine (?_ : WC _ _ _ _ _ _)
    cases m23 with
    | zero => rw [F_laws_toInt64S_L1_z] at hF; cases hF
    | succ m23 =>
      rw [F_laws_toInt64S_L1_s] at hF
      refine WC.seq ?_
      refine WC.seq ?_
      refine WC.region ?_
      refine TL.yld rfl rfl (yld_move rfl rfl) ?_
      refine TL.yld rfl rfl (yld_move rfl rfl) ?_
      refine TL.yld rfl rfl (ye_len (c := (cInt .i64)) rfl Tryz.underlying24 rfl (slRep.old ha2 he19 (Nat.le_refl _))) ?_
      refine TL.yld rfl rfl (yld_lss rfl rfl rfl) ?_
      refine TL.done ?_
      refine NX.seq ?_
      refine WC.cond rfl ?_ ?_
      · intro hc25
        replace hF := bif_t hc25 hF
        refine WC.skip' ?_
        refine NX.seq ?_
        refine WC.seq ?_
        refine WC.block ?_
        refine WC.region ?_
        refine TL.yld rfl rfl (yld_move rfl rfl) ?_
        refine TL.yld rfl rfl (yld_move rfl rfl) ?_
        refine TL.yld rfl rfl (yld_move rfl rfl) ?_
        refine TL.yld rfl rfl (yld_move rfl rfl) ?_
        obtain ⟨x26, hy27, hF⟩ := bsome hF
        refine TL.ye rfl rfl (ye_index (c := (cInt .i64)) rfl Tryz.underlying24 cn_2 rfl rfl (slRep.old ha2 he19 (Nat.le_refl _)) hy27) ?_
        rintro _ ⟨b28, o29, us30, rfl, hib33, hr31, hcl32⟩
        have hib33 : 0 ≤ b28 ∧ b28 < w.heap.size := ⟨hib33.1, by have := hib33.2; omega⟩
        obtain rfl := hr31
        refine TL.yld rfl rfl (yld_load1 0 rfl ag_2 rfl hcl32 rfl rfl) ?_
        obtain ⟨x34, hy35, hF⟩ := bsome hF
        refine TL.ye rfl rfl (ye_index_own (c := (cInt .i64)) rfl Tryz.underlying24 cn_2 rfl rfl hs22 hy35) ?_
        rintro _ ⟨g36, us38, rfl, hg37, hr39, hcl40⟩
        have hr39r := hr39
        obtain rfl := hr39
        refine TL.eff rfl rfl (eff_store_own (c := (cInt .i64)) (us' := [.int .i64 x26]) (y' := x26) 0 _ rfl rfl rfl hs22 hg37 hy35 rfl cn_2 rfl hr39r hcl40 rfl rfl rfl (fun k h => absurd h.2 (Nat.not_lt_zero k))) ?_
        rintro _ w41 ⟨hu42, hs43⟩
        have he44 : Ext w w41 := Below.trans he19 (Upd.below hu42 (by have := hbd16 _ hg37; omega))
        have hz45 := (hu42).size
        refine TL.done ?_
        refine NX.blk_n ?_
        refine NX.seq ?_
        refine WC.region ?_
        refine TL.yld rfl rfl (yld_move rfl rfl) ?_
        refine TL.yld rfl rfl (yld_add rfl rfl rfl) ?_
        refine TL.yld rfl rfl (yld_assign rfl rfl) ?_
        refine TL.done ?_
        refine NX.then_n ?_
        intro a hK; exact ⟨m23, Nat.lt_succ_self m23, (IntKind.wrap IntKind.i64 (i20 + 1)), ((l21.set (i20).toNat x26)), hK.weaken ⟨rfl, rfl, rfl, trivial⟩, he44, (by omega), hs43, hF⟩
      · intro hc46
        replace hF := bif_f hc46 hF
        refine WC.exit' ?_
        refine NX.then_e ?_
        refine NX.then_e ?_
        refine NX.blk_hit ?_
        refine NX.seq ?_
        refine WC.seq ?_
        refine WC.region ?_
        refine TL.yld rfl rfl (yld_move rfl rfl) ?_
        refine TL.yld rfl rfl (yld_assign rfl rfl) ?_
        refine TL.done ?_
        refine NX.seq ?_
        refine WC.ret' ?_
        obtain rfl := Option.some.inj hF
        exact NX.end (rs := [.tmp 2]) (vs := [v5]) rfl ⟨rfl, trivial⟩ ⟨_, rfl, _, rfl, ownR.base hs22 (by omega), he19⟩

-- loop.example/g00861/laws.toTable
def F_laws_toTable (n : Nat) (a0_a : S_Table) : Option S_Table := (Option.bind (F_laws_toInt64S n a0_a.Slews) fun r28 => (Option.bind (F_laws_toInt64S n a0_a.Loads) fun r43 => (Option.bind (F_laws_toInt64S n a0_a.Values) fun r58 => (some ((S_Table.mk r28 r43 r58))))))
set_option maxHeartbeats 40000000 in
theorem W_laws_toTable {n : Nat} {a0_a : S_Table} {r : S_Table} {w : World} {v1 : Value} {v3 : Value} {v5 : Value} (hF : F_laws_toTable n a0_a = some r) (ha2 : slRep (cInt .i64) w (Iv 0 w.heap.size) a0_a.Slews v1) (ha4 : slRep (cInt .i64) w (Iv 0 w.heap.size) a0_a.Loads v3) (ha6 : slRep (cInt .i64) w (Iv 0 w.heap.size) a0_a.Values v5) :
    Calls Tryz.prog 58 [.agg #[v1, v3, v5]].toArray w (Ret fun u w2 => ∃ v0_0 v0_1 v0_2, u = .agg #[v0_0, v0_1, v0_2] ∧ ownR (cInt .i64) w2 w.heap.size (Iv 0 0) 2 r.Slews v0_0 ∧ ownR (cInt .i64) w2 w.heap.size (Iv 0 0) 2 r.Loads v0_1 ∧ ownR (cInt .i64) w2 w.heap.size (Iv 0 0) 2 r.Values v0_2 ∧ (∀ g q, v0_1.ownBlock = some g → v0_0.ownBlock = some q → g ≠ q) ∧ (∀ g q, v0_2.ownBlock = some g → v0_0.ownBlock = some q → g ≠ q) ∧ (∀ g q, v0_2.ownBlock = some g → v0_1.ownBlock = some q → g ≠ q) ∧ Ext w w2) := by
  refine calls_of Tryz.func58 rfl Tryz.ntmps58 ?_
  have he0 : Ext w w := Ext.refl w
  unfold F_laws_toTable at hF
  refine WC.seq ?_
  refine WC.region ?_
  refine TL.eff rfl rfl (eff_box rfl rfl) ?_
  rintro _ w8 ⟨b7, rfl, hn9⟩
  obtain ⟨hn9e, hn9s, hn9x, hb10⟩ := hn9
  have hb10 : Box w8 b7 [v1, v3, v5] 89 := hb10
  have he12 : Ext w w8 := Ext.trans he0 hn9x
  have hz13 := (hn9x).size
  have hlo11 : w.heap.size ≤ b7 := by rw [hn9e]; exact (he0).size
  refine TL.eff rfl rfl (eff_alloc rfl zn_94) ?_
  rintro _ w15 ⟨b14, rfl, hn16⟩
  obtain ⟨hn16e, hn16s, hn16x, hb17⟩ := hn16
  have hb17 : Box w15 b14 [.slice none 0 0, .slice none 0 0, .slice none 0 0] 94 := hb17
  have he19 : Ext w w15 := Ext.trans he12 hn16x
  have hb10 := Box.ext hb10 hn16x
  have hz20 := (hn16x).size
  have hlo18 : w.heap.size ≤ b14 := by rw [hn16e]; exact (he12).size
  refine TL.done ?_
  refine NX.seq ?_
  refine WC.seq ?_
  refine WC.region ?_
  refine TL.eff rfl rfl (eff_alloc rfl zn_94) ?_
  rintro _ w22 ⟨b21, rfl, hn23⟩
  obtain ⟨hn23e, hn23s, hn23x, hb24⟩ := hn23
  have hb24 : Box w22 b21 [.slice none 0 0, .slice none 0 0, .slice none 0 0] 94 := hb24
  have he26 : Ext w w22 := Ext.trans he19 hn23x
  have hb10 := Box.ext hb10 hn23x
  have hb17 := Box.ext hb17 hn23x
  have hz27 := (hn23x).size
  have hlo25 : w.heap.size ≤ b21 := by rw [hn23e]; exact (he19).size
  refine TL.done ?_
  refine NX.seq ?_
  refine WC.seq ?_
  refine WC.region ?_
  refine TL.yld rfl rfl (yld_fieldAddr rfl fo_89_0 rfl) ?_
  refine TL.yld rfl rfl (yld_load1 0 rfl ag_24 rfl (Box.cells hb10) rfl rfl) ?_
  obtain ⟨r28, hr29, hF⟩ := bsome hF
  refine TL.eff rfl rfl (eff_call rfl gf_17 rfl (W_laws_toInt64S hr29 ((slRep.old ha2 he26 (Nat.le_refl _)).wide (Nat.le_refl _) (he26).size))) ?_
  rintro v32 w30 ⟨_, rfl, hs33, hx31⟩
  have he36 : Ext w w30 := Ext.trans he26 hx31
  have hb10 := Box.ext hb10 hx31
  have hb17 := Box.ext hb17 hx31
  have hb24 := Box.ext hb24 hx31
  have hz37 := (hx31).size
  have hbd35 := ownR.blk hs33
  refine TL.yld rfl rfl (yld_fieldAddr rfl fo_94_0 rfl) ?_
  refine TL.eff rfl rfl (eff_store1 rfl rfl rfl hb24 cn_24 (slRep.cells (ownR.slf hs33 (Nat.le_refl _) (Nat.le_refl _))) (slRep.one (ownR.slf hs33 (Nat.le_refl _) (Nat.le_refl _))) rfl) ?_
  rintro _ w38 ⟨hu39, hb40⟩
  have he41 : Ext w w38 := Below.trans he36 (Upd.below hu39 (by omega))
  have hb10 := Box.upd hb10 hu39 (by omega)
  have hb17 := Box.upd hb17 hu39 (by omega)
  have hs33 := ownR.upd hs33 hu39 (fun g hg => by have := hbd35 g hg; omega)
  have hz42 := (hu39).size
  have hb24 : Box w38 b21 [v32, .slice none 0 0, .slice none 0 0] 94 := hb40
  refine TL.done ?_
  refine NX.seq ?_
  refine WC.seq ?_
  refine WC.region ?_
  refine TL.yld rfl rfl (yld_fieldAddr rfl fo_89_1 rfl) ?_
  refine TL.yld rfl rfl (yld_load1 1 rfl ag_24 rfl (Box.cells hb10) rfl rfl) ?_
  obtain ⟨r43, hr44, hF⟩ := bsome hF
  refine TL.eff rfl rfl (eff_call rfl gf_17 rfl (W_laws_toInt64S hr44 ((slRep.old ha4 he41 (Nat.le_refl _)).wide (Nat.le_refl _) (he41).size))) ?_
  rintro v47 w45 ⟨_, rfl, hs48, hx46⟩
  have he51 : Ext w w45 := Ext.trans he41 hx46
  have hb10 := Box.ext hb10 hx46
  have hb17 := Box.ext hb17 hx46
  have hb24 := Box.ext hb24 hx46
  have hs33 := ownR.ext hs33 hx46
  have hz52 := (hx46).size
  have hbd50 := ownR.blk hs48
  refine TL.yld rfl rfl (yld_fieldAddr rfl fo_94_1 rfl) ?_
  refine TL.eff rfl rfl (eff_store1 rfl rfl rfl hb24 cn_24 (slRep.cells (ownR.slf hs48 (Nat.le_refl _) (Nat.le_refl _))) (slRep.one (ownR.slf hs48 (Nat.le_refl _) (Nat.le_refl _))) rfl) ?_
  rintro _ w53 ⟨hu54, hb55⟩
  have he56 : Ext w w53 := Below.trans he51 (Upd.below hu54 (by omega))
  have hb10 := Box.upd hb10 hu54 (by omega)
  have hb17 := Box.upd hb17 hu54 (by omega)
  have hs33 := ownR.upd hs33 hu54 (fun g hg => by have := hbd35 g hg; omega)
  have hs48 := ownR.upd hs48 hu54 (fun g hg => by have := hbd50 g hg; omega)
  have hz57 := (hu54).size
  have hb24 : Box w53 b21 [v32, v47, .slice none 0 0] 94 := hb55
  refine TL.done ?_
  refine NX.seq ?_
  refine WC.seq ?_
  refine WC.region ?_
  refine TL.yld rfl rfl (yld_fieldAddr rfl fo_89_2 rfl) ?_
  refine TL.yld rfl rfl (yld_load1 2 rfl ag_24 rfl (Box.cells hb10) rfl rfl) ?_
  obtain ⟨r58, hr59, hF⟩ := bsome hF
  refine TL.eff rfl rfl (eff_call rfl gf_17 rfl (W_laws_toInt64S hr59 ((slRep.old ha6 he56 (Nat.le_refl _)).wide (Nat.le_refl _) (he56).size))) ?_
  rintro v62 w60 ⟨_, rfl, hs63, hx61⟩
  have he66 : Ext w w60 := Ext.trans he56 hx61
  have hb17 := Box.ext hb17 hx61
  have hb24 := Box.ext hb24 hx61
  have hs33 := ownR.ext hs33 hx61
  have hs48 := ownR.ext hs48 hx61
  have hz67 := (hx61).size
  have hbd65 := ownR.blk hs63
  refine TL.yld rfl rfl (yld_fieldAddr rfl fo_94_2 rfl) ?_
  refine TL.eff rfl rfl (eff_store1 rfl rfl rfl hb24 cn_24 (slRep.cells (ownR.slf hs63 (Nat.le_refl _) (Nat.le_refl _))) (slRep.one (ownR.slf hs63 (Nat.le_refl _) (Nat.le_refl _))) rfl) ?_
  rintro _ w68 ⟨hu69, hb70⟩
  have he71 : Ext w w68 := Below.trans he66 (Upd.below hu69 (by omega))
  have hb17 := Box.upd hb17 hu69 (by omega)
  have hs33 := ownR.upd hs33 hu69 (fun g hg => by have := hbd35 g hg; omega)
  have hs48 := ownR.upd hs48 hu69 (fun g hg => by have := hbd50 g hg; omega)
  have hs63 := ownR.upd hs63 hu69 (fun g hg => by have := hbd65 g hg; omega)
  have hz72 := (hu69).size
  have hb24 : Box w68 b21 [v32, v47, v62] 94 := hb70
  refine TL.done ?_
  refine NX.seq ?_
  refine WC.seq ?_
  refine WC.region ?_
  refine TL.yld rfl rfl (yld_loadN (us := [v32, v47, v62]) rfl ag_94 rfl (Box.cells hb24) cn_94) ?_
  refine TL.eff rfl rfl (eff_store rfl rfl rfl hb17 cn_94 (allc_cons (slRep.one (ownR.slf hs33 (Nat.le_refl _) (Nat.le_refl _))) (allc_cons (slRep.one (ownR.slf hs48 (Nat.le_refl _) (Nat.le_refl _))) (allc_cons (slRep.one (ownR.slf hs63 (Nat.le_refl _) (Nat.le_refl _))) allc_nil))) rfl) ?_
  rintro _ w73 ⟨hu74, hb75⟩
  have he76 : Ext w w73 := Below.trans he71 (Upd.below hu74 (by omega))
  have hs33 := ownR.upd hs33 hu74 (fun g hg => by have := hbd35 g hg; omega)
  have hs48 := ownR.upd hs48 hu74 (fun g hg => by have := hbd50 g hg; omega)
  have hs63 := ownR.upd hs63 hu74 (fun g hg => by have := hbd65 g hg; omega)
  have hz77 := (hu74).size
  have hb17 : Box w73 b14 [v32, v47, v62] 94 := hb75
  refine TL.done ?_
  refine NX.seq ?_
  refine WC.ret' ?_
  obtain rfl := Option.some.inj hF
  exact NX.end (rs := [.cell 2 94]) (vs := [.agg #[v32, v47, v62]]) rfl ⟨⟨b14, rfl, box_load ag_94 cn_94 hb17⟩, trivial⟩ ⟨_, rfl, _, _, _, rfl, ownR.base hs33 (by omega), ownR.base hs48 (by omega), ownR.base hs63 (by omega), (fun g q hg hq => by have := hbd50 g hg; have := hbd35 q hq; omega), (fun g q hg hq => by have := hbd65 g hg; have := hbd35 q hq; omega), (fun g q hg hq => by have := hbd65 g hg; have := hbd50 q hq; omega), he76⟩

-- loop.example/g00861/laws.toTableS
def F_laws_toTableS_L1 (n : Nat) (a0_a : List S_Table) (k0 : Int → (List S_Table) → Option (List S_Table)) : Nat → Int → (List S_Table) → Option (List S_Table)
  | 0 => fun _ _ => none
  | m + 1 => fun i20 l21 => (bif decide (i20 < (a0_a.length : Int)) then (Option.bind (getI a0_a i20) fun x24 => (Option.bind (F_laws_toTable n x24) fun r38 => (Option.bind (getI l21 i20) fun x59 => (F_laws_toTableS_L1 n a0_a k0 m (IntKind.wrap IntKind.i64 (i20 + 1)) ((l21.set (i20).toNat r38)))))) else (k0 i20 l21))
theorem F_laws_toTableS_L1_z (n : Nat) (a0_a : List S_Table) (k0 : Int → (List S_Table) → Option (List S_Table)) (i20 : Int) (l21 : List S_Table) : F_laws_toTableS_L1 n a0_a k0 0 i20 l21 = none := rfl
theorem F_laws_toTableS_L1_s (m : Nat) (n : Nat) (a0_a : List S_Table) (k0 : Int → (List S_Table) → Option (List S_Table)) (i20 : Int) (l21 : List S_Table) : F_laws_toTableS_L1 n a0_a k0 (m + 1) i20 l21 = (bif decide (i20 < (a0_a.length : Int)) then (Option.bind (getI a0_a i20) fun x24 => (Option.bind (F_laws_toTable n x24) fun r38 => (Option.bind (getI l21 i20) fun x59 => (F_laws_toTableS_L1 n a0_a k0 m (IntKind.wrap IntKind.i64 (i20 + 1)) ((l21.set (i20).toNat r38)))))) else (k0 i20 l21)) := rfl

def F_laws_toTableS (n : Nat) (a0_a : List S_Table) : Option (List S_Table) := (Option.bind (mkN ((a0_a.length : Int)) 72) fun n3 => (F_laws_toTableS_L1 n a0_a (fun i20 l21 => (some l21)) n 0 (List.replicate n3 ((S_Table.mk (([] : List Int)) (([] : List Int)) (([] : List Int)))))))
set_option maxHeartbeats 40000000 in
theorem W_laws_toTableS {n : Nat} {a0_a : List S_Table} {r : List S_Table} {w : World} {v1 : Value} (hF : F_laws_toTableS n a0_a = some r) (ha2 : slRep C_Table w (Iv 0 w.heap.size) a0_a v1) :
    Calls Tryz.prog 45 [v1].toArray w (Ret fun u w2 => ∃ v0_0, u = v0_0 ∧ ownR C_Table w2 w.heap.size (SX w.heap.size w2.heap.size v0_0) 94 r v0_0 ∧ Ext w w2) := by
  refine calls_of Tryz.func45 rfl Tryz.ntmps45 ?_
  have he0 : Ext w w := Ext.refl w
  unfold F_laws_toTableS at hF
  refine WC.seq ?_
  refine WC.region ?_
  refine TL.yld rfl rfl (yld_assign rfl rfl) ?_
  refine TL.done ?_
  refine NX.seq ?_
  refine WC.seq ?_
  refine WC.region ?_
  refine TL.yld rfl rfl (yld_move rfl rfl) ?_
  refine TL.yld rfl rfl (ye_len (c := C_Table) rfl Tryz.underlying53 rfl (slRep.old ha2 he0 (Nat.le_refl _))) ?_
  obtain ⟨n3, hk4, hF⟩ := bsome hF
  refine TL.eff rfl rfl (eff_make (c := C_Table) (z := (S_Table.mk (([] : List Int)) (([] : List Int)) (([] : List Int)))) rfl Tryz.underlying60 in_94 rfl rfl rfl hk4 rfl rfl (fun _ => C_Table_mk (slRep.nil _ _ _) (slRep.nil _ _ _) (slRep.nil _ _ _))) ?_
  rintro v5 w6 ⟨g7, hv8, hg9, hz10, hx11, hs12⟩
  have he13 : Ext w w6 := Ext.trans he0 hx11
  have hz14 := (hx11).size
  have hlo15 : w.heap.size ≤ g7 := by rw [hg9]; exact (he0).size
  have hs12 := ownR.toN hs12 hv8
  have hbd16 := bd_of hv8
  clear hv8
  refine TL.yld rfl rfl (yld_assign rfl rfl) ?_
  refine TL.done ?_
  refine NX.seq ?_
  refine WC.seq ?_
  refine WC.seq ?_
  refine WC.region ?_
  refine TL.yld rfl rfl (yld_assign rfl rfl) ?_
  refine TL.done ?_
  refine NX.seq ?_
  refine WC.block ?_
  refine WC.loop (fun m23 a wl => ∃ (i20 : Int) (l21 : List S_Table), Kn 23 [(0, v1), (3, v5), (4, .int .i64 i20)] a ∧ Ext w wl ∧ w6.heap.size ≤ wl.heap.size ∧ ownR C_Table wl (g7) (SX (g7) wl.heap.size v5) 94 l21 v5 ∧ F_laws_toTableS_L1 n a0_a (fun i20 l21 => (some l21)) m23 i20 l21 = some r) n ?_ ?_
  · intro a hK; exact ⟨0, (List.replicate n3 ((S_Table.mk (([] : List Int)) (([] : List Int)) (([] : List Int))))), hK.weaken ⟨rfl, rfl, rfl, trivial⟩, he13, Nat.le_refl _, (ownR.wideN hs12 (by omega)), hF⟩
  · rintro m23 a w18 ⟨i20, l21, hK, he19, hz24, hs22, hF⟩
    revert hK; revert a; refine (?_ : WC _ _ _ _ _ _)
    cases m23 with
    | zero => rw [F_laws_toTableS_L1_z] at hF; cases hF
    | succ m23 =>
      rw [F_laws_toTableS_L1_s] at hF
      refine WC.seq ?_
      refine WC.seq ?_
      refine WC.region ?_
      refine TL.yld rfl rfl (yld_move rfl rfl) ?_
      refine TL.yld rfl rfl (yld_move rfl rfl) ?_
      refine TL.yld rfl rfl (ye_len (c := C_Table) rfl Tryz.underlying53 rfl (slRep.old ha2 he19 (Nat.le_refl _))) ?_
      refine TL.yld rfl rfl (yld_lss rfl rfl rfl) ?_
      refine TL.done ?_
      refine NX.seq ?_
      refine WC.cond rfl ?_ ?_
      · intro hc25
        replace hF := bif_t hc25 hF
        refine WC.skip' ?_
        refine NX.seq ?_
        refine WC.seq ?_
        refine WC.block ?_
        refine WC.region ?_
        refine TL.yld rfl rfl (yld_move rfl rfl) ?_
        refine TL.yld rfl rfl (yld_move rfl rfl) ?_
        refine TL.yld rfl rfl (yld_move rfl rfl) ?_
        refine TL.yld rfl rfl (yld_move rfl rfl) ?_
        obtain ⟨x26, hy27, hF⟩ := bsome hF
        refine TL.ye rfl rfl (ye_index (c := C_Table) rfl Tryz.underlying53 cn_89 rfl rfl (slRep.old ha2 he19 (Nat.le_refl _)) hy27) ?_
        rintro _ ⟨b28, o29, us30, rfl, hib33, hr31, hcl32⟩
        have hib33 : 0 ≤ b28 ∧ b28 < w.heap.size := ⟨hib33.1, by have := hib33.2; omega⟩
        obtain ⟨v34, v35, v36, rfl, hs37, hs38, hs39⟩ := C_Table_open hr31
        refine TL.yld rfl rfl (yld_loadN (us := [v34, v35, v36]) rfl ag_89 rfl hcl32 cn_89) ?_
        obtain ⟨r40, hr41, hF⟩ := bsome hF
        refine TL.eff rfl rfl (eff_call rfl gf_58 rfl (W_laws_toTable hr41 (hs37.wide (Nat.zero_le _) (by omega)) (hs38.wide (Nat.zero_le _) (by omega)) (hs39.wide (Nat.zero_le _) (by omega)))) ?_
        rintro _ w42 ⟨v44, v46, v48, rfl, hs45, hs47, hs49, hp56, hp57, hp58, hx43⟩
        have he59 : Ext w w42 := Ext.trans he19 hx43
        have hs22 := ownR.extN hs22 hx43 (by omega)
        have hz60 := (hx43).size
        have hbd51 := ownR.blk hs45
        have hbd53 := ownR.blk hs47
        have hbd55 := ownR.blk hs49
        obtain ⟨x61, hy62, hF⟩ := bsome hF
        have hs63 := ownR.wideN (hi' := w42.heap.size) hs22 (by omega)
        refine TL.ye rfl rfl (ye_index_own (c := C_Table) rfl Tryz.underlying60 cn_94 rfl rfl hs63 hy62) ?_
        rintro _ ⟨g64, us66, rfl, hg65, hr67, hcl68⟩
        have hr67r := hr67
        obtain ⟨v69, v70, v71, rfl, hs72, hs73, hs74⟩ := C_Table_open hr67
        refine TL.eff rfl rfl (eff_store_own (c := C_Table) (us' := [v44, v46, v48]) (y' := r40) 0 _ rfl rfl rfl hs63 hg65 hy62 rfl cn_94 (allc_cons (slRep.one (ownR.slf hs45 (Nat.le_refl _) (Nat.le_refl _))) (allc_cons (slRep.one (ownR.slf hs47 (Nat.le_refl _) (Nat.le_refl _))) (allc_cons (slRep.one (ownR.slf hs49 (Nat.le_refl _) (Nat.le_refl _))) allc_nil))) hr67r hcl68 rfl rfl (C_Table_mk ((ownR.slf hs45 (Nat.le_refl _) (Nat.le_refl _)).mono (fun k h => ⟨by have := h.1; omega, by have := h.2; omega, fun e => by have := hbd16 k e; have := h.1; have := h.2; omega⟩) (fun _ _ => rfl)) ((ownR.slf hs47 (Nat.le_refl _) (Nat.le_refl _)).mono (fun k h => ⟨by have := h.1; omega, by have := h.2; omega, fun e => by have := hbd16 k e; have := h.1; have := h.2; omega⟩) (fun _ _ => rfl)) ((ownR.slf hs49 (Nat.le_refl _) (Nat.le_refl _)).mono (fun k h => ⟨by have := h.1; omega, by have := h.2; omega, fun e => by have := hbd16 k e; have := h.1; have := h.2; omega⟩) (fun _ _ => rfl))) (fun k h e => h.2.2 (e ▸ hg65))) ?_
        rintro _ w78 ⟨hu79, hs80⟩
        have he81 : Ext w w78 := Below.trans he59 (Upd.below hu79 (by have := hbd16 _ hg65; omega))
        have hz82 := (hu79).size
        refine TL.done ?_
        refine NX.blk_n ?_
        refine NX.seq ?_
        refine WC.region ?_
        refine TL.yld rfl rfl (yld_move rfl rfl) ?_
        refine TL.yld rfl rfl (yld_add rfl rfl rfl) ?_
        refine TL.yld rfl rfl (yld_assign rfl rfl) ?_
        refine TL.done ?_
        refine NX.then_n ?_
        intro a hK; exact ⟨m23, Nat.lt_succ_self m23, (IntKind.wrap IntKind.i64 (i20 + 1)), ((l21.set (i20).toNat r40)), hK.weaken ⟨rfl, rfl, rfl, trivial⟩, he81, (by omega), (ownR.wideN hs80 (by omega)), hF⟩
      · intro hc83
        replace hF := bif_f hc83 hF
        refine WC.exit' ?_
        refine NX.then_e ?_
        refine NX.then_e ?_
        refine NX.blk_hit ?_
        refine NX.seq ?_
        refine WC.seq ?_
        refine WC.region ?_
        refine TL.yld rfl rfl (yld_move rfl rfl) ?_
        refine TL.yld rfl rfl (yld_assign rfl rfl) ?_
        refine TL.done ?_
        refine NX.seq ?_
        refine WC.ret' ?_
        obtain rfl := Option.some.inj hF
        exact NX.end (rs := [.tmp 2]) (vs := [v5]) rfl ⟨rfl, trivial⟩ ⟨_, rfl, _, rfl, ownR.baseN (ownR.wideN hs22 (by omega)) (by omega), he19⟩

-- loop.example/g00861/laws.toArc
def F_laws_toArc (n : Nat) (a0_a : S_Arc) : Option S_Arc := (Option.bind (F_laws_toTableS n a0_a.Delay) fun r46 => (Option.bind (F_laws_toTableS n a0_a.Slew) fun r61 => (some ((S_Arc.mk a0_a.Kind a0_a.From a0_a.To a0_a.Sense r46 r61)))))
set_option maxHeartbeats 40000000 in
theorem W_laws_toArc {n : Nat} {a0_a : S_Arc} {r : S_Arc} {w : World} {v1 : Value} {v3 : Value} (hF : F_laws_toArc n a0_a = some r) (ha2 : slRep C_Table w (Iv 0 w.heap.size) a0_a.Delay v1) (ha4 : slRep C_Table w (Iv 0 w.heap.size) a0_a.Slew v3) :
    Calls Tryz.prog 33 [.agg #[.int .i64 a0_a.Kind, .int .i64 a0_a.From, .int .i64 a0_a.To, .int .i64 a0_a.Sense, v1, v3]].toArray w (Ret fun u w2 => ∃ v0_4 v0_5, u = .agg #[.int .i64 r.Kind, .int .i64 r.From, .int .i64 r.To, .int .i64 r.Sense, v0_4, v0_5] ∧ ownR C_Table w2 w.heap.size (SX w.heap.size w2.heap.size v0_4) 94 r.Delay v0_4 ∧ ownR C_Table w2 w.heap.size (SX w.heap.size w2.heap.size v0_5) 94 r.Slew v0_5 ∧ (∀ g q, v0_5.ownBlock = some g → v0_4.ownBlock = some q → g ≠ q) ∧ Ext w w2) := by
  refine calls_of Tryz.func33 rfl Tryz.ntmps33 ?_
  have he0 : Ext w w := Ext.refl w
  unfold F_laws_toArc at hF
  refine WC.seq ?_
  refine WC.region ?_
  refine TL.eff rfl rfl (eff_box rfl rfl) ?_
  rintro _ w6 ⟨b5, rfl, hn7⟩
  obtain ⟨hn7e, hn7s, hn7x, hb8⟩ := hn7
  have hb8 : Box w6 b5 [.int .i64 a0_a.Kind, .int .i64 a0_a.From, .int .i64 a0_a.To, .int .i64 a0_a.Sense, v1, v3] 55 := hb8
  have he10 : Ext w w6 := Ext.trans he0 hn7x
  have hz11 := (hn7x).size
  have hlo9 : w.heap.size ≤ b5 := by rw [hn7e]; exact (he0).size
  refine TL.eff rfl rfl (eff_alloc rfl zn_62) ?_
  rintro _ w13 ⟨b12, rfl, hn14⟩
  obtain ⟨hn14e, hn14s, hn14x, hb15⟩ := hn14
  have hb15 : Box w13 b12 [.int .i64 0, .int .i64 0, .int .i64 0, .int .i64 0, .slice none 0 0, .slice none 0 0] 62 := hb15
  have he17 : Ext w w13 := Ext.trans he10 hn14x
  have hb8 := Box.ext hb8 hn14x
  have hz18 := (hn14x).size
  have hlo16 : w.heap.size ≤ b12 := by rw [hn14e]; exact (he10).size
  refine TL.done ?_
  refine NX.seq ?_
  refine WC.seq ?_
  refine WC.region ?_
  refine TL.eff rfl rfl (eff_alloc rfl zn_62) ?_
  rintro _ w20 ⟨b19, rfl, hn21⟩
  obtain ⟨hn21e, hn21s, hn21x, hb22⟩ := hn21
  have hb22 : Box w20 b19 [.int .i64 0, .int .i64 0, .int .i64 0, .int .i64 0, .slice none 0 0, .slice none 0 0] 62 := hb22
  have he24 : Ext w w20 := Ext.trans he17 hn21x
  have hb8 := Box.ext hb8 hn21x
  have hb15 := Box.ext hb15 hn21x
  have hz25 := (hn21x).size
  have hlo23 : w.heap.size ≤ b19 := by rw [hn21e]; exact (he17).size
  refine TL.done ?_
  refine NX.seq ?_
  refine WC.seq ?_
  refine WC.region ?_
  refine TL.yld rfl rfl (yld_fieldAddr rfl fo_55_0 rfl) ?_
  refine TL.yld rfl rfl (yld_load1 0 rfl ag_2 rfl (Box.cells hb8) rfl rfl) ?_
  refine TL.yld rfl rfl (yld_fieldAddr rfl fo_62_0 rfl) ?_
  refine TL.eff rfl rfl (eff_store rfl rfl rfl hb22 cn_2 rfl rfl) ?_
  rintro _ w26 ⟨hu27, hb28⟩
  have he29 : Ext w w26 := Below.trans he24 (Upd.below hu27 (by omega))
  have hb8 := Box.upd hb8 hu27 (by omega)
  have hb15 := Box.upd hb15 hu27 (by omega)
  have hz30 := (hu27).size
  have hb22 : Box w26 b19 [.int .i64 a0_a.Kind, .int .i64 0, .int .i64 0, .int .i64 0, .slice none 0 0, .slice none 0 0] 62 := hb28
  refine TL.done ?_
  refine NX.seq ?_
  refine WC.seq ?_
  refine WC.region ?_
  refine TL.yld rfl rfl (yld_fieldAddr rfl fo_55_1 rfl) ?_
  refine TL.yld rfl rfl (yld_load1 1 rfl ag_2 rfl (Box.cells hb8) rfl rfl) ?_
  refine TL.yld rfl rfl (yld_fieldAddr rfl fo_62_1 rfl) ?_
  refine TL.eff rfl rfl (eff_store rfl rfl rfl hb22 cn_2 rfl rfl) ?_
  rintro _ w31 ⟨hu32, hb33⟩
  have he34 : Ext w w31 := Below.trans he29 (Upd.below hu32 (by omega))
  have hb8 := Box.upd hb8 hu32 (by omega)
  have hb15 := Box.upd hb15 hu32 (by omega)
  have hz35 := (hu32).size
  have hb22 : Box w31 b19 [.int .i64 a0_a.Kind, .int .i64 a0_a.From, .int .i64 0, .int .i64 0, .slice none 0 0, .slice none 0 0] 62 := hb33
  refine TL.done ?_
  refine NX.seq ?_
  refine WC.seq ?_
  refine WC.region ?_
  refine TL.yld rfl rfl (yld_fieldAddr rfl fo_55_2 rfl) ?_
  refine TL.yld rfl rfl (yld_load1 2 rfl ag_2 rfl (Box.cells hb8) rfl rfl) ?_
  refine TL.yld rfl rfl (yld_fieldAddr rfl fo_62_2 rfl) ?_
  refine TL.eff rfl rfl (eff_store rfl rfl rfl hb22 cn_2 rfl rfl) ?_
  rintro _ w36 ⟨hu37, hb38⟩
  have he39 : Ext w w36 := Below.trans he34 (Upd.below hu37 (by omega))
  have hb8 := Box.upd hb8 hu37 (by omega)
  have hb15 := Box.upd hb15 hu37 (by omega)
  have hz40 := (hu37).size
  have hb22 : Box w36 b19 [.int .i64 a0_a.Kind, .int .i64 a0_a.From, .int .i64 a0_a.To, .int .i64 0, .slice none 0 0, .slice none 0 0] 62 := hb38
  refine TL.done ?_
  refine NX.seq ?_
  refine WC.seq ?_
  refine WC.region ?_
  refine TL.yld rfl rfl (yld_fieldAddr rfl fo_55_3 rfl) ?_
  refine TL.yld rfl rfl (yld_load1 3 rfl ag_2 rfl (Box.cells hb8) rfl rfl) ?_
  refine TL.yld rfl rfl (yld_fieldAddr rfl fo_62_3 rfl) ?_
  refine TL.eff rfl rfl (eff_store rfl rfl rfl hb22 cn_2 rfl rfl) ?_
  rintro _ w41 ⟨hu42, hb43⟩
  have he44 : Ext w w41 := Below.trans he39 (Upd.below hu42 (by omega))
  have hb8 := Box.upd hb8 hu42 (by omega)
  have hb15 := Box.upd hb15 hu42 (by omega)
  have hz45 := (hu42).size
  have hb22 : Box w41 b19 [.int .i64 a0_a.Kind, .int .i64 a0_a.From, .int .i64 a0_a.To, .int .i64 a0_a.Sense, .slice none 0 0, .slice none 0 0] 62 := hb43
  refine TL.done ?_
  refine NX.seq ?_
  refine WC.seq ?_
  refine WC.region ?_
  refine TL.yld rfl rfl (yld_fieldAddr rfl fo_55_4 rfl) ?_
  refine TL.yld rfl rfl (yld_load1 4 rfl ag_53 rfl (Box.cells hb8) rfl rfl) ?_
  obtain ⟨r46, hr47, hF⟩ := bsome hF
  refine TL.eff rfl rfl (eff_call rfl gf_45 rfl (W_laws_toTableS hr47 ((slRep.old ha2 he44 (Nat.le_refl _)).wide (Nat.le_refl _) (he44).size))) ?_
  rintro v50 w48 ⟨_, rfl, hs51, hx49⟩
  have he54 : Ext w w48 := Ext.trans he44 hx49
  have hb8 := Box.ext hb8 hx49
  have hb15 := Box.ext hb15 hx49
  have hb22 := Box.ext hb22 hx49
  have hz55 := (hx49).size
  have hbd53 := ownR.blk hs51
  refine TL.yld rfl rfl (yld_fieldAddr rfl fo_62_4 rfl) ?_
  refine TL.eff rfl rfl (eff_store1 rfl rfl rfl hb22 cn_60 (slRep.cells (ownR.slN hs51 (Nat.le_refl _) (Nat.le_refl _) (by omega))) (slRep.one (ownR.slN hs51 (Nat.le_refl _) (Nat.le_refl _) (by omega))) rfl) ?_
  rintro _ w56 ⟨hu57, hb58⟩
  have he59 : Ext w w56 := Below.trans he54 (Upd.below hu57 (by omega))
  have hb8 := Box.upd hb8 hu57 (by omega)
  have hb15 := Box.upd hb15 hu57 (by omega)
  have hs51 := ownR.updN hs51 hu57 (fun g hg => by have := hbd53 g hg; omega) (by omega)
  have hz60 := (hu57).size
  have hb22 : Box w56 b19 [.int .i64 a0_a.Kind, .int .i64 a0_a.From, .int .i64 a0_a.To, .int .i64 a0_a.Sense, v50, .slice none 0 0] 62 := hb58
  refine TL.done ?_
  refine NX.seq ?_
  refine WC.seq ?_
  refine WC.region ?_
  refine TL.yld rfl rfl (yld_fieldAddr rfl fo_55_5 rfl) ?_
  refine TL.yld rfl rfl (yld_load1 5 rfl ag_53 rfl (Box.cells hb8) rfl rfl) ?_
  obtain ⟨r61, hr62, hF⟩ := bsome hF
  refine TL.eff rfl rfl (eff_call rfl gf_45 rfl (W_laws_toTableS hr62 ((slRep.old ha4 he59 (Nat.le_refl _)).wide (Nat.le_refl _) (he59).size))) ?_
  rintro v65 w63 ⟨_, rfl, hs66, hx64⟩
  have he69 : Ext w w63 := Ext.trans he59 hx64
  have hb15 := Box.ext hb15 hx64
  have hb22 := Box.ext hb22 hx64
  have hs51 := ownR.extN hs51 hx64 (by omega)
  have hz70 := (hx64).size
  have hbd68 := ownR.blk hs66
  refine TL.yld rfl rfl (yld_fieldAddr rfl fo_62_5 rfl) ?_
  refine TL.eff rfl rfl (eff_store1 rfl rfl rfl hb22 cn_60 (slRep.cells (ownR.slN hs66 (Nat.le_refl _) (Nat.le_refl _) (by omega))) (slRep.one (ownR.slN hs66 (Nat.le_refl _) (Nat.le_refl _) (by omega))) rfl) ?_
  rintro _ w71 ⟨hu72, hb73⟩
  have he74 : Ext w w71 := Below.trans he69 (Upd.below hu72 (by omega))
  have hb15 := Box.upd hb15 hu72 (by omega)
  have hs51 := ownR.updN hs51 hu72 (fun g hg => by have := hbd53 g hg; omega) (by omega)
  have hs66 := ownR.updN hs66 hu72 (fun g hg => by have := hbd68 g hg; omega) (by omega)
  have hz75 := (hu72).size
  have hb22 : Box w71 b19 [.int .i64 a0_a.Kind, .int .i64 a0_a.From, .int .i64 a0_a.To, .int .i64 a0_a.Sense, v50, v65] 62 := hb73
  refine TL.done ?_
  refine NX.seq ?_
  refine WC.seq ?_
  refine WC.region ?_
  refine TL.yld rfl rfl (yld_loadN (us := [.int .i64 a0_a.Kind, .int .i64 a0_a.From, .int .i64 a0_a.To, .int .i64 a0_a.Sense, v50, v65]) rfl ag_62 rfl (Box.cells hb22) cn_62) ?_
  refine TL.eff rfl rfl (eff_store rfl rfl rfl hb15 cn_62 (allc_cons rfl (allc_cons rfl (allc_cons rfl (allc_cons rfl (allc_cons (slRep.one (ownR.slN hs51 (Nat.le_refl _) (Nat.le_refl _) (by omega))) (allc_cons (slRep.one (ownR.slN hs66 (Nat.le_refl _) (Nat.le_refl _) (by omega))) allc_nil)))))) rfl) ?_
  rintro _ w76 ⟨hu77, hb78⟩
  have he79 : Ext w w76 := Below.trans he74 (Upd.below hu77 (by omega))
  have hs51 := ownR.updN hs51 hu77 (fun g hg => by have := hbd53 g hg; omega) (by omega)
  have hs66 := ownR.updN hs66 hu77 (fun g hg => by have := hbd68 g hg; omega) (by omega)
  have hz80 := (hu77).size
  have hb15 : Box w76 b12 [.int .i64 a0_a.Kind, .int .i64 a0_a.From, .int .i64 a0_a.To, .int .i64 a0_a.Sense, v50, v65] 62 := hb78
  refine TL.done ?_
  refine NX.seq ?_
  refine WC.ret' ?_
  obtain rfl := Option.some.inj hF
  exact NX.end (rs := [.cell 2 62]) (vs := [.agg #[.int .i64 a0_a.Kind, .int .i64 a0_a.From, .int .i64 a0_a.To, .int .i64 a0_a.Sense, v50, v65]]) rfl ⟨⟨b12, rfl, box_load ag_62 cn_62 hb15⟩, trivial⟩ ⟨_, rfl, _, _, rfl, ownR.baseN (ownR.wideN hs51 (by omega)) (by omega), ownR.baseN (ownR.wideN hs66 (by omega)) (by omega), (fun g q hg hq => by have := hbd68 g hg; have := hbd53 q hq; omega), he79⟩

-- loop.example/g00861/laws.toArcS
def F_laws_toArcS_L1 (n : Nat) (a0_a : List S_Arc) (k0 : Int → (List S_Arc) → Option (List S_Arc)) : Nat → Int → (List S_Arc) → Option (List S_Arc)
  | 0 => fun _ _ => none
  | m + 1 => fun i20 l21 => (bif decide (i20 < (a0_a.length : Int)) then (Option.bind (getI a0_a i20) fun x24 => (Option.bind (F_laws_toArc n x24) fun r36 => (Option.bind (getI l21 i20) fun x51 => (F_laws_toArcS_L1 n a0_a k0 m (IntKind.wrap IntKind.i64 (i20 + 1)) ((l21.set (i20).toNat r36)))))) else (k0 i20 l21))
theorem F_laws_toArcS_L1_z (n : Nat) (a0_a : List S_Arc) (k0 : Int → (List S_Arc) → Option (List S_Arc)) (i20 : Int) (l21 : List S_Arc) : F_laws_toArcS_L1 n a0_a k0 0 i20 l21 = none := rfl
theorem F_laws_toArcS_L1_s (m : Nat) (n : Nat) (a0_a : List S_Arc) (k0 : Int → (List S_Arc) → Option (List S_Arc)) (i20 : Int) (l21 : List S_Arc) : F_laws_toArcS_L1 n a0_a k0 (m + 1) i20 l21 = (bif decide (i20 < (a0_a.length : Int)) then (Option.bind (getI a0_a i20) fun x24 => (Option.bind (F_laws_toArc n x24) fun r36 => (Option.bind (getI l21 i20) fun x51 => (F_laws_toArcS_L1 n a0_a k0 m (IntKind.wrap IntKind.i64 (i20 + 1)) ((l21.set (i20).toNat r36)))))) else (k0 i20 l21)) := rfl

def F_laws_toArcS (n : Nat) (a0_a : List S_Arc) : Option (List S_Arc) := (Option.bind (mkN ((a0_a.length : Int)) 80) fun n3 => (F_laws_toArcS_L1 n a0_a (fun i20 l21 => (some l21)) n 0 (List.replicate n3 ((S_Arc.mk 0 0 0 0 (([] : List S_Table)) (([] : List S_Table)))))))
set_option maxHeartbeats 40000000 in
theorem W_laws_toArcS {n : Nat} {a0_a : List S_Arc} {r : List S_Arc} {w : World} {v1 : Value} (hF : F_laws_toArcS n a0_a = some r) (ha2 : slRep C_Arc w (Iv 0 w.heap.size) a0_a v1) :
    Calls Tryz.prog 16 [v1].toArray w (Ret fun u w2 => ∃ v0_0, u = v0_0 ∧ ownR C_Arc w2 w.heap.size (SX w.heap.size w2.heap.size v0_0) 62 r v0_0 ∧ Ext w w2) := by
  refine calls_of Tryz.func16 rfl Tryz.ntmps16 ?_
  have he0 : Ext w w := Ext.refl w
  unfold F_laws_toArcS at hF
  refine WC.seq ?_
  refine WC.region ?_
  refine TL.yld rfl rfl (yld_assign rfl rfl) ?_
  refine TL.done ?_
  refine NX.seq ?_
  refine WC.seq ?_
  refine WC.region ?_
  refine TL.yld rfl rfl (yld_move rfl rfl) ?_
  refine TL.yld rfl rfl (ye_len (c := C_Arc) rfl Tryz.underlying23 rfl (slRep.old ha2 he0 (Nat.le_refl _))) ?_
  obtain ⟨n3, hk4, hF⟩ := bsome hF
  refine TL.eff rfl rfl (eff_make (c := C_Arc) (z := (S_Arc.mk 0 0 0 0 (([] : List S_Table)) (([] : List S_Table)))) rfl Tryz.underlying30 in_62 rfl rfl rfl hk4 rfl rfl (fun _ => C_Arc_mk (slRep.nil _ _ _) (slRep.nil _ _ _))) ?_
  rintro v5 w6 ⟨g7, hv8, hg9, hz10, hx11, hs12⟩
  have he13 : Ext w w6 := Ext.trans he0 hx11
  have hz14 := (hx11).size
  have hlo15 : w.heap.size ≤ g7 := by rw [hg9]; exact (he0).size
  have hs12 := ownR.toN hs12 hv8
  have hbd16 := bd_of hv8
  clear hv8
  refine TL.yld rfl rfl (yld_assign rfl rfl) ?_
  refine TL.done ?_
  refine NX.seq ?_
  refine WC.seq ?_
  refine WC.seq ?_
  refine WC.region ?_
  refine TL.yld rfl rfl (yld_assign rfl rfl) ?_
  refine TL.done ?_
  refine NX.seq ?_
  refine WC.block ?_
  refine WC.loop (fun m23 a wl => ∃ (i20 : Int) (l21 : List S_Arc), Kn 23 [(0, v1), (3, v5), (4, .int .i64 i20)] a ∧ Ext w wl ∧ w6.heap.size ≤ wl.heap.size ∧ ownR C_Arc wl (g7) (SX (g7) wl.heap.size v5) 62 l21 v5 ∧ F_laws_toArcS_L1 n a0_a (fun i20 l21 => (some l21)) m23 i20 l21 = some r) n ?_ ?_
  · intro a hK; exact ⟨0, (List.replicate n3 ((S_Arc.mk 0 0 0 0 (([] : List S_Table)) (([] : List S_Table))))), hK.weaken ⟨rfl, rfl, rfl, trivial⟩, he13, Nat.le_refl _, (ownR.wideN hs12 (by omega)), hF⟩
  · rintro m23 a w18 ⟨i20, l21, hK, he19, hz24, hs22, hF⟩
    revert hK; revert a; refine (?_ : WC _ _ _ _ _ _)
    cases m23 with
    | zero => rw [F_laws_toArcS_L1_z] at hF; cases hF
    | succ m23 =>
      rw [F_laws_toArcS_L1_s] at hF
      refine WC.seq ?_
      refine WC.seq ?_
      refine WC.region ?_
      refine TL.yld rfl rfl (yld_move rfl rfl) ?_
      refine TL.yld rfl rfl (yld_move rfl rfl) ?_
      refine TL.yld rfl rfl (ye_len (c := C_Arc) rfl Tryz.underlying23 rfl (slRep.old ha2 he19 (Nat.le_refl _))) ?_
      refine TL.yld rfl rfl (yld_lss rfl rfl rfl) ?_
      refine TL.done ?_
      refine NX.seq ?_
      refine WC.cond rfl ?_ ?_
      · intro hc25
        replace hF := bif_t hc25 hF
        refine WC.skip' ?_
        refine NX.seq ?_
        refine WC.seq ?_
        refine WC.block ?_
        refine WC.region ?_
        refine TL.yld rfl rfl (yld_move rfl rfl) ?_
        refine TL.yld rfl rfl (yld_move rfl rfl) ?_
        refine TL.yld rfl rfl (yld_move rfl rfl) ?_
        refine TL.yld rfl rfl (yld_move rfl rfl) ?_
        obtain ⟨x26, hy27, hF⟩ := bsome hF
        refine TL.ye rfl rfl (ye_index (c := C_Arc) rfl Tryz.underlying23 cn_55 rfl rfl (slRep.old ha2 he19 (Nat.le_refl _)) hy27) ?_
        rintro _ ⟨b28, o29, us30, rfl, hib33, hr31, hcl32⟩
        have hib33 : 0 ≤ b28 ∧ b28 < w.heap.size := ⟨hib33.1, by have := hib33.2; omega⟩
        obtain ⟨v34, v35, rfl, hs36, hs37⟩ := C_Arc_open hr31
        refine TL.yld rfl rfl (yld_loadN (us := [.int .i64 x26.Kind, .int .i64 x26.From, .int .i64 x26.To, .int .i64 x26.Sense, v34, v35]) rfl ag_55 rfl hcl32 cn_55) ?_
        obtain ⟨r38, hr39, hF⟩ := bsome hF
        refine TL.eff rfl rfl (eff_call rfl gf_33 rfl (W_laws_toArc hr39 (hs36.wide (Nat.zero_le _) (by omega)) (hs37.wide (Nat.zero_le _) (by omega)))) ?_
        rintro _ w40 ⟨v42, v44, rfl, hs43, hs45, hp50, hx41⟩
        have he51 : Ext w w40 := Ext.trans he19 hx41
        have hs22 := ownR.extN hs22 hx41 (by omega)
        have hz52 := (hx41).size
        have hbd47 := ownR.blk hs43
        have hbd49 := ownR.blk hs45
        obtain ⟨x53, hy54, hF⟩ := bsome hF
        have hs55 := ownR.wideN (hi' := w40.heap.size) hs22 (by omega)
        refine TL.ye rfl rfl (ye_index_own (c := C_Arc) rfl Tryz.underlying30 cn_62 rfl rfl hs55 hy54) ?_
        rintro _ ⟨g56, us58, rfl, hg57, hr59, hcl60⟩
        have hr59r := hr59
        obtain ⟨v61, v62, rfl, hs63, hs64⟩ := C_Arc_open hr59
        refine TL.eff rfl rfl (eff_store_own (c := C_Arc) (us' := [.int .i64 r38.Kind, .int .i64 r38.From, .int .i64 r38.To, .int .i64 r38.Sense, v42, v44]) (y' := r38) 0 _ rfl rfl rfl hs55 hg57 hy54 rfl cn_62 (allc_cons rfl (allc_cons rfl (allc_cons rfl (allc_cons rfl (allc_cons (slRep.one (ownR.slN hs43 (Nat.le_refl _) (Nat.le_refl _) (by omega))) (allc_cons (slRep.one (ownR.slN hs45 (Nat.le_refl _) (Nat.le_refl _) (by omega))) allc_nil)))))) hr59r hcl60 rfl rfl (C_Arc_mk ((ownR.slN hs43 (Nat.le_refl _) (Nat.le_refl _) (by omega)).mono (fun k h => ⟨by have := h.1; omega, by have := h.2; omega, fun e => by have := hbd16 k e; have := h.1; have := h.2; omega⟩) (fun _ _ => rfl)) ((ownR.slN hs45 (Nat.le_refl _) (Nat.le_refl _) (by omega)).mono (fun k h => ⟨by have := h.1; omega, by have := h.2; omega, fun e => by have := hbd16 k e; have := h.1; have := h.2; omega⟩) (fun _ _ => rfl))) (fun k h e => h.2.2 (e ▸ hg57))) ?_
        rintro _ w67 ⟨hu68, hs69⟩
        have he70 : Ext w w67 := Below.trans he51 (Upd.below hu68 (by have := hbd16 _ hg57; omega))
        have hz71 := (hu68).size
        refine TL.done ?_
        refine NX.blk_n ?_
        refine NX.seq ?_
        refine WC.region ?_
        refine TL.yld rfl rfl (yld_move rfl rfl) ?_
        refine TL.yld rfl rfl (yld_add rfl rfl rfl) ?_
        refine TL.yld rfl rfl (yld_assign rfl rfl) ?_
        refine TL.done ?_
        refine NX.then_n ?_
        intro a hK; exact ⟨m23, Nat.lt_succ_self m23, (IntKind.wrap IntKind.i64 (i20 + 1)), ((l21.set (i20).toNat r38)), hK.weaken ⟨rfl, rfl, rfl, trivial⟩, he70, (by omega), (ownR.wideN hs69 (by omega)), hF⟩
      · intro hc72
        replace hF := bif_f hc72 hF
        refine WC.exit' ?_
        refine NX.then_e ?_
        refine NX.then_e ?_
        refine NX.blk_hit ?_
        refine NX.seq ?_
        refine WC.seq ?_
        refine WC.region ?_
        refine TL.yld rfl rfl (yld_move rfl rfl) ?_
        refine TL.yld rfl rfl (yld_assign rfl rfl) ?_
        refine TL.done ?_
        refine NX.seq ?_
        refine WC.ret' ?_
        obtain rfl := Option.some.inj hF
        exact NX.end (rs := [.tmp 2]) (vs := [v5]) rfl ⟨rfl, trivial⟩ ⟨_, rfl, _, rfl, ownR.baseN (ownR.wideN hs22 (by omega)) (by omega), he19⟩

-- loop.example/g00861/laws.toCell
def F_laws_toCell (n : Nat) (a0_a : S_Cell) : Option S_Cell := (Option.bind (F_laws_toPinS n a0_a.Pins) fun r38 => (Option.bind (F_laws_toArcS n a0_a.Arcs) fun r53 => (Option.bind (F_laws_toInt64S n a0_a.Truth) fun r68 => (some ((S_Cell.mk a0_a.Name a0_a.Kind r38 r53 r68 a0_a.Leak a0_a.Energy))))))
set_option maxHeartbeats 40000000 in
theorem W_laws_toCell {n : Nat} {a0_a : S_Cell} {r : S_Cell} {w : World} {v1 : Value} {v3 : Value} {v5 : Value} (hF : F_laws_toCell n a0_a = some r) (ha2 : slRep C_Pin w (Iv 0 w.heap.size) a0_a.Pins v1) (ha4 : slRep C_Arc w (Iv 0 w.heap.size) a0_a.Arcs v3) (ha6 : slRep (cInt .i64) w (Iv 0 w.heap.size) a0_a.Truth v5) :
    Calls Tryz.prog 6 [.agg #[.string a0_a.Name, .int .i64 a0_a.Kind, v1, v3, v5, .int .i64 a0_a.Leak, .int .i64 a0_a.Energy]].toArray w (Ret fun u w2 => ∃ v0_2 v0_3 v0_4, u = .agg #[.string r.Name, .int .i64 r.Kind, v0_2, v0_3, v0_4, .int .i64 r.Leak, .int .i64 r.Energy] ∧ ownR C_Pin w2 w.heap.size (Iv 0 0) 67 r.Pins v0_2 ∧ ownR C_Arc w2 w.heap.size (SX w.heap.size w2.heap.size v0_3) 62 r.Arcs v0_3 ∧ ownR (cInt .i64) w2 w.heap.size (Iv 0 0) 2 r.Truth v0_4 ∧ (∀ g q, v0_3.ownBlock = some g → v0_2.ownBlock = some q → g ≠ q) ∧ (∀ g q, v0_4.ownBlock = some g → v0_2.ownBlock = some q → g ≠ q) ∧ (∀ g q, v0_4.ownBlock = some g → v0_3.ownBlock = some q → g ≠ q) ∧ Ext w w2) := by
  refine calls_of Tryz.func6 rfl Tryz.ntmps6 ?_
  have he0 : Ext w w := Ext.refl w
  unfold F_laws_toCell at hF
  refine WC.seq ?_
  refine WC.region ?_
  refine TL.eff rfl rfl (eff_box rfl rfl) ?_
  rintro _ w8 ⟨b7, rfl, hn9⟩
  obtain ⟨hn9e, hn9s, hn9x, hb10⟩ := hn9
  have hb10 : Box w8 b7 [.string a0_a.Name, .int .i64 a0_a.Kind, v1, v3, v5, .int .i64 a0_a.Leak, .int .i64 a0_a.Energy] 26 := hb10
  have he12 : Ext w w8 := Ext.trans he0 hn9x
  have hz13 := (hn9x).size
  have hlo11 : w.heap.size ≤ b7 := by rw [hn9e]; exact (he0).size
  refine TL.eff rfl rfl (eff_alloc rfl zn_32) ?_
  rintro _ w15 ⟨b14, rfl, hn16⟩
  obtain ⟨hn16e, hn16s, hn16x, hb17⟩ := hn16
  have hb17 : Box w15 b14 [.string ByteArray.empty, .int .i64 0, .slice none 0 0, .slice none 0 0, .slice none 0 0, .int .i64 0, .int .i64 0] 32 := hb17
  have he19 : Ext w w15 := Ext.trans he12 hn16x
  have hb10 := Box.ext hb10 hn16x
  have hz20 := (hn16x).size
  have hlo18 : w.heap.size ≤ b14 := by rw [hn16e]; exact (he12).size
  refine TL.done ?_
  refine NX.seq ?_
  refine WC.seq ?_
  refine WC.region ?_
  refine TL.eff rfl rfl (eff_alloc rfl zn_32) ?_
  rintro _ w22 ⟨b21, rfl, hn23⟩
  obtain ⟨hn23e, hn23s, hn23x, hb24⟩ := hn23
  have hb24 : Box w22 b21 [.string ByteArray.empty, .int .i64 0, .slice none 0 0, .slice none 0 0, .slice none 0 0, .int .i64 0, .int .i64 0] 32 := hb24
  have he26 : Ext w w22 := Ext.trans he19 hn23x
  have hb10 := Box.ext hb10 hn23x
  have hb17 := Box.ext hb17 hn23x
  have hz27 := (hn23x).size
  have hlo25 : w.heap.size ≤ b21 := by rw [hn23e]; exact (he19).size
  refine TL.done ?_
  refine NX.seq ?_
  refine WC.seq ?_
  refine WC.region ?_
  refine TL.yld rfl rfl (yld_fieldAddr rfl fo_26_0 rfl) ?_
  refine TL.yld rfl rfl (yld_load1 0 rfl ag_9 rfl (Box.cells hb10) rfl rfl) ?_
  refine TL.yld rfl rfl (yld_fieldAddr rfl fo_32_0 rfl) ?_
  refine TL.eff rfl rfl (eff_store rfl rfl rfl hb24 cn_9 rfl rfl) ?_
  rintro _ w28 ⟨hu29, hb30⟩
  have he31 : Ext w w28 := Below.trans he26 (Upd.below hu29 (by omega))
  have hb10 := Box.upd hb10 hu29 (by omega)
  have hb17 := Box.upd hb17 hu29 (by omega)
  have hz32 := (hu29).size
  have hb24 : Box w28 b21 [.string a0_a.Name, .int .i64 0, .slice none 0 0, .slice none 0 0, .slice none 0 0, .int .i64 0, .int .i64 0] 32 := hb30
  refine TL.done ?_
  refine NX.seq ?_
  refine WC.seq ?_
  refine WC.region ?_
  refine TL.yld rfl rfl (yld_fieldAddr rfl fo_26_1 rfl) ?_
  refine TL.yld rfl rfl (yld_load1 1 rfl ag_2 rfl (Box.cells hb10) rfl rfl) ?_
  refine TL.yld rfl rfl (yld_fieldAddr rfl fo_32_1 rfl) ?_
  refine TL.eff rfl rfl (eff_store rfl rfl rfl hb24 cn_2 rfl rfl) ?_
  rintro _ w33 ⟨hu34, hb35⟩
  have he36 : Ext w w33 := Below.trans he31 (Upd.below hu34 (by omega))
  have hb10 := Box.upd hb10 hu34 (by omega)
  have hb17 := Box.upd hb17 hu34 (by omega)
  have hz37 := (hu34).size
  have hb24 : Box w33 b21 [.string a0_a.Name, .int .i64 a0_a.Kind, .slice none 0 0, .slice none 0 0, .slice none 0 0, .int .i64 0, .int .i64 0] 32 := hb35
  refine TL.done ?_
  refine NX.seq ?_
  refine WC.seq ?_
  refine WC.region ?_
  refine TL.yld rfl rfl (yld_fieldAddr rfl fo_26_2 rfl) ?_
  refine TL.yld rfl rfl (yld_load1 2 rfl ag_22 rfl (Box.cells hb10) rfl rfl) ?_
  obtain ⟨r38, hr39, hF⟩ := bsome hF
  refine TL.eff rfl rfl (eff_call rfl gf_15 rfl (W_laws_toPinS hr39 ((slRep.old ha2 he36 (Nat.le_refl _)).wide (Nat.le_refl _) (he36).size))) ?_
  rintro v42 w40 ⟨_, rfl, hs43, hx41⟩
  have he46 : Ext w w40 := Ext.trans he36 hx41
  have hb10 := Box.ext hb10 hx41
  have hb17 := Box.ext hb17 hx41
  have hb24 := Box.ext hb24 hx41
  have hz47 := (hx41).size
  have hbd45 := ownR.blk hs43
  refine TL.yld rfl rfl (yld_fieldAddr rfl fo_32_2 rfl) ?_
  refine TL.eff rfl rfl (eff_store1 rfl rfl rfl hb24 cn_29 (slRep.cells (ownR.slf hs43 (Nat.le_refl _) (Nat.le_refl _))) (slRep.one (ownR.slf hs43 (Nat.le_refl _) (Nat.le_refl _))) rfl) ?_
  rintro _ w48 ⟨hu49, hb50⟩
  have he51 : Ext w w48 := Below.trans he46 (Upd.below hu49 (by omega))
  have hb10 := Box.upd hb10 hu49 (by omega)
  have hb17 := Box.upd hb17 hu49 (by omega)
  have hs43 := ownR.upd hs43 hu49 (fun g hg => by have := hbd45 g hg; omega)
  have hz52 := (hu49).size
  have hb24 : Box w48 b21 [.string a0_a.Name, .int .i64 a0_a.Kind, v42, .slice none 0 0, .slice none 0 0, .int .i64 0, .int .i64 0] 32 := hb50
  refine TL.done ?_
  refine NX.seq ?_
  refine WC.seq ?_
  refine WC.region ?_
  refine TL.yld rfl rfl (yld_fieldAddr rfl fo_26_3 rfl) ?_
  refine TL.yld rfl rfl (yld_load1 3 rfl ag_23 rfl (Box.cells hb10) rfl rfl) ?_
  obtain ⟨r53, hr54, hF⟩ := bsome hF
  refine TL.eff rfl rfl (eff_call rfl gf_16 rfl (W_laws_toArcS hr54 ((slRep.old ha4 he51 (Nat.le_refl _)).wide (Nat.le_refl _) (he51).size))) ?_
  rintro v57 w55 ⟨_, rfl, hs58, hx56⟩
  have he61 : Ext w w55 := Ext.trans he51 hx56
  have hb10 := Box.ext hb10 hx56
  have hb17 := Box.ext hb17 hx56
  have hb24 := Box.ext hb24 hx56
  have hs43 := ownR.ext hs43 hx56
  have hz62 := (hx56).size
  have hbd60 := ownR.blk hs58
  refine TL.yld rfl rfl (yld_fieldAddr rfl fo_32_3 rfl) ?_
  refine TL.eff rfl rfl (eff_store1 rfl rfl rfl hb24 cn_30 (slRep.cells (ownR.slN hs58 (Nat.le_refl _) (Nat.le_refl _) (by omega))) (slRep.one (ownR.slN hs58 (Nat.le_refl _) (Nat.le_refl _) (by omega))) rfl) ?_
  rintro _ w63 ⟨hu64, hb65⟩
  have he66 : Ext w w63 := Below.trans he61 (Upd.below hu64 (by omega))
  have hb10 := Box.upd hb10 hu64 (by omega)
  have hb17 := Box.upd hb17 hu64 (by omega)
  have hs43 := ownR.upd hs43 hu64 (fun g hg => by have := hbd45 g hg; omega)
  have hs58 := ownR.updN hs58 hu64 (fun g hg => by have := hbd60 g hg; omega) (by omega)
  have hz67 := (hu64).size
  have hb24 : Box w63 b21 [.string a0_a.Name, .int .i64 a0_a.Kind, v42, v57, .slice none 0 0, .int .i64 0, .int .i64 0] 32 := hb65
  refine TL.done ?_
  refine NX.seq ?_
  refine WC.seq ?_
  refine WC.region ?_
  refine TL.yld rfl rfl (yld_fieldAddr rfl fo_26_4 rfl) ?_
  refine TL.yld rfl rfl (yld_load1 4 rfl ag_24 rfl (Box.cells hb10) rfl rfl) ?_
  obtain ⟨r68, hr69, hF⟩ := bsome hF
  refine TL.eff rfl rfl (eff_call rfl gf_17 rfl (W_laws_toInt64S hr69 ((slRep.old ha6 he66 (Nat.le_refl _)).wide (Nat.le_refl _) (he66).size))) ?_
  rintro v72 w70 ⟨_, rfl, hs73, hx71⟩
  have he76 : Ext w w70 := Ext.trans he66 hx71
  have hb10 := Box.ext hb10 hx71
  have hb17 := Box.ext hb17 hx71
  have hb24 := Box.ext hb24 hx71
  have hs43 := ownR.ext hs43 hx71
  have hs58 := ownR.extN hs58 hx71 (by omega)
  have hz77 := (hx71).size
  have hbd75 := ownR.blk hs73
  refine TL.yld rfl rfl (yld_fieldAddr rfl fo_32_4 rfl) ?_
  refine TL.eff rfl rfl (eff_store1 rfl rfl rfl hb24 cn_24 (slRep.cells (ownR.slf hs73 (Nat.le_refl _) (Nat.le_refl _))) (slRep.one (ownR.slf hs73 (Nat.le_refl _) (Nat.le_refl _))) rfl) ?_
  rintro _ w78 ⟨hu79, hb80⟩
  have he81 : Ext w w78 := Below.trans he76 (Upd.below hu79 (by omega))
  have hb10 := Box.upd hb10 hu79 (by omega)
  have hb17 := Box.upd hb17 hu79 (by omega)
  have hs43 := ownR.upd hs43 hu79 (fun g hg => by have := hbd45 g hg; omega)
  have hs58 := ownR.updN hs58 hu79 (fun g hg => by have := hbd60 g hg; omega) (by omega)
  have hs73 := ownR.upd hs73 hu79 (fun g hg => by have := hbd75 g hg; omega)
  have hz82 := (hu79).size
  have hb24 : Box w78 b21 [.string a0_a.Name, .int .i64 a0_a.Kind, v42, v57, v72, .int .i64 0, .int .i64 0] 32 := hb80
  refine TL.done ?_
  refine NX.seq ?_
  refine WC.seq ?_
  refine WC.region ?_
  refine TL.yld rfl rfl (yld_fieldAddr rfl fo_26_5 rfl) ?_
  refine TL.yld rfl rfl (yld_load1 5 rfl ag_2 rfl (Box.cells hb10) rfl rfl) ?_
  refine TL.yld rfl rfl (yld_fieldAddr rfl fo_32_5 rfl) ?_
  refine TL.eff rfl rfl (eff_store rfl rfl rfl hb24 cn_2 rfl rfl) ?_
  rintro _ w83 ⟨hu84, hb85⟩
  have he86 : Ext w w83 := Below.trans he81 (Upd.below hu84 (by omega))
  have hb10 := Box.upd hb10 hu84 (by omega)
  have hb17 := Box.upd hb17 hu84 (by omega)
  have hs43 := ownR.upd hs43 hu84 (fun g hg => by have := hbd45 g hg; omega)
  have hs58 := ownR.updN hs58 hu84 (fun g hg => by have := hbd60 g hg; omega) (by omega)
  have hs73 := ownR.upd hs73 hu84 (fun g hg => by have := hbd75 g hg; omega)
  have hz87 := (hu84).size
  have hb24 : Box w83 b21 [.string a0_a.Name, .int .i64 a0_a.Kind, v42, v57, v72, .int .i64 a0_a.Leak, .int .i64 0] 32 := hb85
  refine TL.done ?_
  refine NX.seq ?_
  refine WC.seq ?_
  refine WC.region ?_
  refine TL.yld rfl rfl (yld_fieldAddr rfl fo_26_6 rfl) ?_
  refine TL.yld rfl rfl (yld_load1 6 rfl ag_2 rfl (Box.cells hb10) rfl rfl) ?_
  refine TL.yld rfl rfl (yld_fieldAddr rfl fo_32_6 rfl) ?_
  refine TL.eff rfl rfl (eff_store rfl rfl rfl hb24 cn_2 rfl rfl) ?_
  rintro _ w88 ⟨hu89, hb90⟩
  have he91 : Ext w w88 := Below.trans he86 (Upd.below hu89 (by omega))
  have hb17 := Box.upd hb17 hu89 (by omega)
  have hs43 := ownR.upd hs43 hu89 (fun g hg => by have := hbd45 g hg; omega)
  have hs58 := ownR.updN hs58 hu89 (fun g hg => by have := hbd60 g hg; omega) (by omega)
  have hs73 := ownR.upd hs73 hu89 (fun g hg => by have := hbd75 g hg; omega)
  have hz92 := (hu89).size
  have hb24 : Box w88 b21 [.string a0_a.Name, .int .i64 a0_a.Kind, v42, v57, v72, .int .i64 a0_a.Leak, .int .i64 a0_a.Energy] 32 := hb90
  refine TL.done ?_
  refine NX.seq ?_
  refine WC.seq ?_
  refine WC.region ?_
  refine TL.yld rfl rfl (yld_loadN (us := [.string a0_a.Name, .int .i64 a0_a.Kind, v42, v57, v72, .int .i64 a0_a.Leak, .int .i64 a0_a.Energy]) rfl ag_32 rfl (Box.cells hb24) cn_32) ?_
  refine TL.eff rfl rfl (eff_store rfl rfl rfl hb17 cn_32 (allc_cons rfl (allc_cons rfl (allc_cons (slRep.one (ownR.slf hs43 (Nat.le_refl _) (Nat.le_refl _))) (allc_cons (slRep.one (ownR.slN hs58 (Nat.le_refl _) (Nat.le_refl _) (by omega))) (allc_cons (slRep.one (ownR.slf hs73 (Nat.le_refl _) (Nat.le_refl _))) (allc_cons rfl (allc_cons rfl allc_nil))))))) rfl) ?_
  rintro _ w93 ⟨hu94, hb95⟩
  have he96 : Ext w w93 := Below.trans he91 (Upd.below hu94 (by omega))
  have hs43 := ownR.upd hs43 hu94 (fun g hg => by have := hbd45 g hg; omega)
  have hs58 := ownR.updN hs58 hu94 (fun g hg => by have := hbd60 g hg; omega) (by omega)
  have hs73 := ownR.upd hs73 hu94 (fun g hg => by have := hbd75 g hg; omega)
  have hz97 := (hu94).size
  have hb17 : Box w93 b14 [.string a0_a.Name, .int .i64 a0_a.Kind, v42, v57, v72, .int .i64 a0_a.Leak, .int .i64 a0_a.Energy] 32 := hb95
  refine TL.done ?_
  refine NX.seq ?_
  refine WC.ret' ?_
  obtain rfl := Option.some.inj hF
  exact NX.end (rs := [.cell 2 32]) (vs := [.agg #[.string a0_a.Name, .int .i64 a0_a.Kind, v42, v57, v72, .int .i64 a0_a.Leak, .int .i64 a0_a.Energy]]) rfl ⟨⟨b14, rfl, box_load ag_32 cn_32 hb17⟩, trivial⟩ ⟨_, rfl, _, _, _, rfl, ownR.base hs43 (by omega), ownR.baseN (ownR.wideN hs58 (by omega)) (by omega), ownR.base hs73 (by omega), (fun g q hg hq => by have := hbd60 g hg; have := hbd45 q hq; omega), (fun g q hg hq => by have := hbd75 g hg; have := hbd45 q hq; omega), (fun g q hg hq => by have := hbd75 g hg; have := hbd60 q hq; omega), he96⟩

-- loop.example/g00861/impl.within
def F_impl_within (n : Nat) (a0_x : Int) (a1_low : Int) (a2_high : Int) : Option Bool := (some (((decide (a0_x ≥ a1_low)) && (decide (a0_x ≤ a2_high)))))
set_option maxHeartbeats 40000000 in
theorem W_impl_within {n : Nat} {a0_x : Int} {a1_low : Int} {a2_high : Int} {r : Bool} {w : World} (hF : F_impl_within n a0_x a1_low a2_high = some r) :
    Calls Tryz.prog 37 [.int .i64 a0_x, .int .i64 a1_low, .int .i64 a2_high].toArray w (Ret fun u w2 => u = .bool r ∧ Ext w w2) := by
  refine calls_of Tryz.func37 rfl Tryz.ntmps37 ?_
  have he0 : Ext w w := Ext.refl w
  unfold F_impl_within at hF
  refine WC.seq ?_
  refine WC.region ?_
  refine TL.yld rfl rfl (yld_assign rfl rfl) ?_
  refine TL.done ?_
  refine NX.seq ?_
  refine WC.seq ?_
  refine WC.region ?_
  refine TL.yld rfl rfl (yld_move rfl rfl) ?_
  refine TL.yld rfl rfl (yld_move rfl rfl) ?_
  refine TL.yld rfl rfl (yld_geq rfl rfl rfl) ?_
  refine TL.yld rfl rfl (yld_move rfl rfl) ?_
  refine TL.cut 4 [(14, .bool (((decide (a0_x ≥ a1_low)) && (decide (a0_x ≤ a2_high)))))] (fun w' => Ext w w') ?_ ?_
  · rcases Bool.eq_false_or_eq_true (decide (a0_x ≥ a1_low)) with hg1 | hg1
    ·
      refine TL.gy (j := 3) (t := 10) rfl rfl rfl hg1 rfl (yld_move rfl rfl) ?_
      refine TL.gy (j := 3) (t := 10) rfl rfl rfl hg1 rfl (yld_move rfl rfl) ?_
      refine TL.gy (j := 3) (t := 10) rfl rfl rfl hg1 rfl (yld_leq rfl rfl rfl) ?_
      refine TL.yld rfl rfl (yld_and_t rfl rfl hg1 rfl) ?_
      exact TL.nil fun a h => ⟨h.weaken ⟨rfl, trivial⟩, Ext.refl _⟩
    ·
      refine TL.gnu (j := 3) (t := 10) rfl rfl rfl hg1 rfl ?_
      refine TL.gnu (j := 3) (t := 10) rfl rfl rfl hg1 rfl ?_
      refine TL.gnu (j := 3) (t := 10) rfl rfl rfl hg1 rfl ?_
      refine TL.yld rfl rfl (yld_and_f (b2 := decide (a0_x ≤ a2_high)) rfl rfl hg1 rfl) ?_
      exact TL.nil fun a h => ⟨h.weaken ⟨rfl, trivial⟩, Ext.refl _⟩
  intro w2 hx3
  have he4 : Ext w w2 := Ext.trans he0 hx3
  have hz5 := (hx3).size
  refine TL.yld rfl rfl (yld_assign rfl rfl) ?_
  refine TL.done ?_
  refine NX.seq ?_
  refine WC.ret' ?_
  obtain rfl := Option.some.inj hF
  exact NX.end (rs := [.tmp 6]) (vs := [.bool (((decide (a0_x ≥ a1_low)) && (decide (a0_x ≤ a2_high))))]) rfl ⟨rfl, trivial⟩ ⟨_, rfl, rfl, he4⟩

-- strings.Trim, by the shelf's contract
def F_strings_Trim (n : Nat) (a0_s : ByteArray) (a1_cutset : ByteArray) : Option ByteArray := if a0_s.size ≤ 9223372036854775807 ∧ a1_cutset.size < 4294967281 ∧ (a1_cutset.data.toList.all fun b => decide (b.toNat < 128)) = true then some ⟨(Lib.trimS a0_s.data.toList a1_cutset.data.toList).toArray⟩ else none
theorem W_strings_Trim {n : Nat} {a0_s : ByteArray} {a1_cutset : ByteArray} {r : ByteArray} {w : World} (hF : F_strings_Trim n a0_s a1_cutset = some r) :
    Calls Tryz.prog 46 [.string a0_s, .string a1_cutset].toArray w (Ret fun u w2 => u = .string r ∧ Ext w w2) := by
  unfold F_strings_Trim at hF
  split at hF
  · rename_i h
    obtain rfl := Option.some.inj hF
    refine (Tryz.strings_Trim_ascii a0_s a1_cutset w h.1 h.2.1 (fun j b hb => of_decide_eq_true (List.all_eq_true.1 h.2.2 b (List.mem_of_getElem? hb)))).mono ?_
    rintro e w' ⟨rfl, hB⟩
    exact ⟨_, rfl, rfl, hB⟩
  · cases hF

-- strings.IndexByte, by the shelf's contract
def F_strings_IndexByte (n : Nat) (a0_s : ByteArray) (a1_c : Int) : Option Int := some (Lib.indexByte a0_s.data.toList a1_c.toNat.toUInt8)
theorem W_strings_IndexByte {n : Nat} {a0_s : ByteArray} {a1_c : Int} {r : Int} {w : World} (hF : F_strings_IndexByte n a0_s a1_c = some r) :
    Calls Tryz.prog 47 [.string a0_s, .int .u8 a1_c].toArray w (Ret fun u w2 => u = .int .i64 r ∧ Ext w w2) := by
  obtain rfl := Option.some.inj hF
  refine (Tryz.strings_IndexByte a0_s a1_c w).mono ?_
  rintro e w' ⟨rfl, rfl⟩
  exact ⟨_, rfl, rfl, Ext.refl _⟩

-- loop.example/g00861/impl.isName
def F_impl_isName (n : Nat) (a0_s : ByteArray) : Option Bool := (Option.bind (F_impl_within n ((a0_s.size : Int)) 1 8) fun r1 => (Option.bind (bif r1 then (Option.bind (F_strings_Trim n a0_s ((ByteArray.mk #[97, 98, 99, 100, 101, 102, 103, 104, 105, 106, 107, 108, 109, 110, 111, 112, 113, 114, 115, 116, 117, 118, 119, 120, 121, 122, 48, 49, 50, 51, 52, 53, 54, 55, 56, 57]))) fun r7 => (some ((r7.toList == ((ByteArray.mk #[])).toList)))) else (some false)) fun c7 => (Option.bind (bif c7 then (Option.bind (getB a0_s 0) fun x20 => (Option.bind (F_strings_IndexByte n ((ByteArray.mk #[97, 98, 99, 100, 101, 102, 103, 104, 105, 106, 107, 108, 109, 110, 111, 112, 113, 114, 115, 116, 117, 118, 119, 120, 121, 122])) x20) fun r22 => (some (decide (r22 ≥ 0))))) else (some false)) fun c20 => (some c20))))
set_option maxHeartbeats 40000000 in
theorem W_impl_isName {n : Nat} {a0_s : ByteArray} {r : Bool} {w : World} (hF : F_impl_isName n a0_s = some r) :
    Calls Tryz.prog 34 [.string a0_s].toArray w (Ret fun u w2 => u = .bool r ∧ Ext w w2) := by
  refine calls_of Tryz.func34 rfl Tryz.ntmps34 ?_
  have he0 : Ext w w := Ext.refl w
  unfold F_impl_isName at hF
  refine WC.seq ?_
  refine WC.region ?_
  refine TL.yld rfl rfl (yld_assign rfl rfl) ?_
  refine TL.done ?_
  refine NX.seq ?_
  refine WC.seq ?_
  refine WC.region ?_
  refine TL.yld rfl rfl (yld_move rfl rfl) ?_
  refine TL.yld rfl rfl (yld_lens rfl Tryz.underlying9 rfl) ?_
  obtain ⟨r1, hr2, hF⟩ := bsome hF
  refine TL.eff rfl rfl (eff_call rfl gf_37 rfl (W_impl_within hr2)) ?_
  rintro _ w3 ⟨rfl, hx4⟩
  have he5 : Ext w w3 := Ext.trans he0 hx4
  have hz6 := (hx4).size
  refine TL.yld rfl rfl (yld_move rfl rfl) ?_
  obtain ⟨c7, hb8, hF⟩ := bsome hF
  refine TL.cut 4 [(0, .string a0_s), (10, .bool c7)] (fun w' => Ext w3 w') ?_ ?_
  · rcases Bool.eq_false_or_eq_true r1 with hg9 | hg9
    ·
      rw [hg9] at hb8; simp only [cond_true, cond_false] at hb8
      replace hF := hb8
      refine TL.gy (j := 3) (t := 6) rfl rfl rfl hg9 rfl (yld_move rfl rfl) ?_
      obtain ⟨r10, hr11, hF⟩ := bsome hF
      refine TL.ge (j := 3) (t := 6) rfl rfl rfl hg9 rfl (eff_call rfl gf_46 rfl (W_strings_Trim hr11)) ?_
      rintro _ w12 ⟨rfl, hx13⟩
      have hz15 := (hx13).size
      refine TL.gy (j := 3) (t := 6) rfl rfl rfl hg9 rfl (yld_eqs rfl rfl rfl) ?_
      obtain rfl := Option.some.inj hF
      refine TL.yld rfl rfl (yld_pick_t rfl rfl hg9 rfl) ?_
      exact TL.nil fun a h => ⟨h.weaken ⟨rfl, rfl, trivial⟩, hx13⟩
    ·
      rw [hg9] at hb8; simp only [cond_true, cond_false] at hb8
      refine TL.gnu (j := 3) (t := 6) rfl rfl rfl hg9 rfl ?_
      refine TL.gnu (j := 3) (t := 6) rfl rfl rfl hg9 rfl ?_
      refine TL.gnu (j := 3) (t := 6) rfl rfl rfl hg9 rfl ?_
      obtain rfl := Option.some.inj hb8
      refine TL.yld rfl rfl (yld_pick_f rfl rfl hg9 rfl) ?_
      exact TL.nil fun a h => ⟨h.weaken ⟨rfl, rfl, trivial⟩, Ext.refl _⟩
  intro w16 hx17
  have he18 : Ext w w16 := Ext.trans he5 hx17
  have hz19 := (hx17).size
  refine TL.yld rfl rfl (yld_move rfl rfl) ?_
  obtain ⟨c20, hb21, hF⟩ := bsome hF
  refine TL.cut 5 [(16, .bool c20)] (fun w' => Ext w16 w') ?_ ?_
  · rcases Bool.eq_false_or_eq_true c7 with hg22 | hg22
    ·
      rw [hg22] at hb21; simp only [cond_true, cond_false] at hb21
      replace hF := hb21
      refine TL.gy (j := 8) (t := 11) rfl rfl rfl hg22 rfl (yld_move rfl rfl) ?_
      obtain ⟨x23, hy24, hF⟩ := bsome hF
      refine TL.gy (j := 8) (t := 11) rfl rfl rfl hg22 rfl (yld_indexStr rfl Tryz.underlying9 rfl rfl hy24) ?_
      obtain ⟨r25, hr26, hF⟩ := bsome hF
      refine TL.ge (j := 8) (t := 11) rfl rfl rfl hg22 rfl (eff_call rfl gf_47 rfl (W_strings_IndexByte hr26)) ?_
      rintro _ w27 ⟨rfl, hx28⟩
      have hz30 := (hx28).size
      refine TL.gy (j := 8) (t := 11) rfl rfl rfl hg22 rfl (yld_geq rfl rfl rfl) ?_
      obtain rfl := Option.some.inj hF
      refine TL.yld rfl rfl (yld_pick_t rfl rfl hg22 rfl) ?_
      exact TL.nil fun a h => ⟨h.weaken ⟨rfl, trivial⟩, hx28⟩
    ·
      rw [hg22] at hb21; simp only [cond_true, cond_false] at hb21
      refine TL.gnu (j := 8) (t := 11) rfl rfl rfl hg22 rfl ?_
      refine TL.gnu (j := 8) (t := 11) rfl rfl rfl hg22 rfl ?_
      refine TL.gnu (j := 8) (t := 11) rfl rfl rfl hg22 rfl ?_
      refine TL.gnu (j := 8) (t := 11) rfl rfl rfl hg22 rfl ?_
      obtain rfl := Option.some.inj hb21
      refine TL.yld rfl rfl (yld_pick_f rfl rfl hg22 rfl) ?_
      exact TL.nil fun a h => ⟨h.weaken ⟨rfl, trivial⟩, Ext.refl _⟩
  intro w31 hx32
  have he33 : Ext w w31 := Ext.trans he18 hx32
  have hz34 := (hx32).size
  refine TL.yld rfl rfl (yld_assign rfl rfl) ?_
  refine TL.done ?_
  refine NX.seq ?_
  refine WC.ret' ?_
  obtain rfl := Option.some.inj hF
  exact NX.end (rs := [.tmp 2]) (vs := [.bool c20]) rfl ⟨rfl, trivial⟩ ⟨_, rfl, rfl, he33⟩

-- loop.example/g00861/impl.length[loop.example/g00861/impl.Pin]
def F_impl_length_impl_Pin (n : Nat) (a0_list : List S_Pin) : Option Int := (some ((a0_list.length : Int)))
set_option maxHeartbeats 40000000 in
theorem W_impl_length_impl_Pin {n : Nat} {a0_list : List S_Pin} {r : Int} {w : World} {v1 : Value} (hF : F_impl_length_impl_Pin n a0_list = some r) (ha2 : slRep C_Pin w (Iv 0 w.heap.size) a0_list v1) :
    Calls Tryz.prog 48 [v1].toArray w (Ret fun u w2 => u = .int .i64 r ∧ Ext w w2) := by
  refine calls_of Tryz.func48 rfl Tryz.ntmps48 ?_
  have he0 : Ext w w := Ext.refl w
  unfold F_impl_length_impl_Pin at hF
  refine WC.seq ?_
  refine WC.region ?_
  refine TL.yld rfl rfl (yld_assign rfl rfl) ?_
  refine TL.done ?_
  refine NX.seq ?_
  refine WC.seq ?_
  refine WC.region ?_
  refine TL.yld rfl rfl (yld_move rfl rfl) ?_
  refine TL.yld rfl rfl (ye_len (c := C_Pin) rfl Tryz.underlying29 rfl (slRep.old ha2 he0 (Nat.le_refl _))) ?_
  refine TL.yld rfl rfl (yld_assign rfl rfl) ?_
  refine TL.done ?_
  refine NX.seq ?_
  refine WC.ret' ?_
  obtain rfl := Option.some.inj hF
  exact NX.end (rs := [.tmp 2]) (vs := [.int .i64 ((a0_list.length : Int))]) rfl ⟨rfl, trivial⟩ ⟨_, rfl, rfl, he0⟩

-- slices.Index[[]string,string]
def F_slices_Index_string_string_L1 (a0_s : List ByteArray) (a1_v : ByteArray) (k0 : Int → Option Int) : Nat → Int → Option Int
  | 0 => fun _ => none
  | m + 1 => fun i5 => (bif decide (i5 < (a0_s.length : Int)) then (Option.bind (getI a0_s i5) fun x7 => (bif (a1_v.toList == x7.toList) then (some i5) else (F_slices_Index_string_string_L1 a0_s a1_v k0 m (IntKind.wrap IntKind.i64 (i5 + 1))))) else (k0 i5))
theorem F_slices_Index_string_string_L1_z (a0_s : List ByteArray) (a1_v : ByteArray) (k0 : Int → Option Int) (i5 : Int) : F_slices_Index_string_string_L1 a0_s a1_v k0 0 i5 = none := rfl
theorem F_slices_Index_string_string_L1_s (m : Nat) (a0_s : List ByteArray) (a1_v : ByteArray) (k0 : Int → Option Int) (i5 : Int) : F_slices_Index_string_string_L1 a0_s a1_v k0 (m + 1) i5 = (bif decide (i5 < (a0_s.length : Int)) then (Option.bind (getI a0_s i5) fun x7 => (bif (a1_v.toList == x7.toList) then (some i5) else (F_slices_Index_string_string_L1 a0_s a1_v k0 m (IntKind.wrap IntKind.i64 (i5 + 1))))) else (k0 i5)) := rfl

def F_slices_Index_string_string (n : Nat) (a0_s : List ByteArray) (a1_v : ByteArray) : Option Int := (F_slices_Index_string_string_L1 a0_s a1_v (fun i5 => (some (-1))) n 0)
set_option maxHeartbeats 40000000 in
theorem W_slices_Index_string_string {n : Nat} {a0_s : List ByteArray} {a1_v : ByteArray} {r : Int} {w : World} {v1 : Value} (hF : F_slices_Index_string_string n a0_s a1_v = some r) (ha2 : slRep cStr w (Iv 0 w.heap.size) a0_s v1) :
    Calls Tryz.prog 82 [v1, .string a1_v].toArray w (Ret fun u w2 => u = .int .i64 r ∧ Ext w w2) := by
  refine calls_of Tryz.func82 rfl Tryz.ntmps82 ?_
  have he0 : Ext w w := Ext.refl w
  unfold F_slices_Index_string_string at hF
  refine WC.seq ?_
  refine WC.region ?_
  refine TL.yld rfl rfl (yld_assign rfl rfl) ?_
  refine TL.done ?_
  refine NX.seq ?_
  refine WC.seq ?_
  refine WC.seq ?_
  refine WC.region ?_
  refine TL.yld rfl rfl (yld_move rfl rfl) ?_
  refine TL.yld rfl rfl (ye_len (c := cStr) rfl Tryz.underlying80 rfl (slRep.old ha2 he0 (Nat.le_refl _))) ?_
  refine TL.yld rfl rfl (yld_move rfl rfl) ?_
  refine TL.done ?_
  refine NX.seq ?_
  refine WC.block ?_
  refine WC.loop (fun m6 a wl => ∃ (i5 : Int), Kn 19 [(0, v1), (1, .string a1_v), (7, .int .i64 ((a0_s.length : Int))), (8, .int .i64 i5)] a ∧ Ext w wl ∧ w.heap.size ≤ wl.heap.size ∧ F_slices_Index_string_string_L1 a0_s a1_v (fun i5 => (some (-1))) m6 i5 = some r) n ?_ ?_
  · intro a hK; exact ⟨0, hK.weaken ⟨rfl, rfl, rfl, rfl, trivial⟩, he0, Nat.le_refl _, hF⟩
  · rintro m6 a w3 ⟨i5, hK, he4, hz7, hF⟩
    revert hK; revert a; refine (?_ : WC _ _ _ _ _ _)
    cases m6 with
    | zero => rw [F_slices_Index_string_string_L1_z] at hF; cases hF
    | succ m6 =>
      rw [F_slices_Index_string_string_L1_s] at hF
      refine WC.seq ?_
      refine WC.region ?_
      refine TL.yld rfl rfl (yld_lss rfl rfl rfl) ?_
      refine TL.done ?_
      refine NX.seq ?_
      refine WC.seq ?_
      refine WC.cond rfl ?_ ?_
      · intro hc8
        replace hF := bif_t hc8 hF
        refine WC.skip' ?_
        refine NX.seq ?_
        refine WC.seq ?_
        refine WC.block ?_
        refine WC.seq ?_
        refine WC.region ?_
        refine TL.yld rfl rfl (yld_move rfl rfl) ?_
        refine TL.yld rfl rfl (yld_assign rfl rfl) ?_
        refine TL.done ?_
        refine NX.seq ?_
        refine WC.seq ?_
        refine WC.region ?_
        refine TL.yld rfl rfl (yld_move rfl rfl) ?_
        refine TL.yld rfl rfl (yld_move rfl rfl) ?_
        refine TL.yld rfl rfl (yld_move rfl rfl) ?_
        obtain ⟨x9, hy10, hF⟩ := bsome hF
        refine TL.ye rfl rfl (ye_index (c := cStr) rfl Tryz.underlying80 cn_9 rfl rfl (slRep.old ha2 he4 (Nat.le_refl _)) hy10) ?_
        rintro _ ⟨b11, o12, us13, rfl, hib16, hr14, hcl15⟩
        have hib16 : 0 ≤ b11 ∧ b11 < w.heap.size := ⟨hib16.1, by have := hib16.2; omega⟩
        obtain rfl := hr14
        refine TL.yld rfl rfl (yld_load1 0 rfl ag_9 rfl hcl15 rfl rfl) ?_
        refine TL.yld rfl rfl (yld_eqs rfl rfl rfl) ?_
        refine TL.done ?_
        refine NX.seq ?_
        refine WC.cond rfl ?_ ?_
        · intro hc17
          replace hF := bif_t hc17 hF
          refine WC.seq ?_
          refine WC.region ?_
          refine TL.yld rfl rfl (yld_move rfl rfl) ?_
          refine TL.yld rfl rfl (yld_assign rfl rfl) ?_
          refine TL.done ?_
          refine NX.seq ?_
          refine WC.ret' ?_
          refine NX.blk_r ?_
          refine NX.then_r ?_
          refine NX.then_r ?_
          refine NX.blk_r ?_
          refine NX.then_r ?_
          obtain rfl := Option.some.inj hF
          exact NX.end (rs := [.tmp 4]) (vs := [.int .i64 i5]) rfl ⟨rfl, trivial⟩ ⟨_, rfl, rfl, he4⟩
        · intro hc18
          replace hF := bif_f hc18 hF
          refine WC.skip' ?_
          refine NX.blk_n ?_
          refine NX.seq ?_
          refine WC.region ?_
          refine TL.yld rfl rfl (yld_add rfl rfl rfl) ?_
          refine TL.yld rfl rfl (yld_move rfl rfl) ?_
          refine TL.done ?_
          refine NX.then_n ?_
          intro a hK; exact ⟨m6, Nat.lt_succ_self m6, (IntKind.wrap IntKind.i64 (i5 + 1)), hK.weaken ⟨rfl, rfl, rfl, rfl, trivial⟩, he4, (by omega), hF⟩
      · intro hc19
        replace hF := bif_f hc19 hF
        refine WC.exit' ?_
        refine NX.then_e ?_
        refine NX.then_e ?_
        refine NX.blk_hit ?_
        refine NX.seq ?_
        refine WC.seq ?_
        refine WC.region ?_
        refine TL.yld rfl rfl (yld_assign rfl rfl) ?_
        refine TL.done ?_
        refine NX.seq ?_
        refine WC.ret' ?_
        obtain rfl := Option.some.inj hF
        exact NX.end (rs := [.tmp 4]) (vs := [.int .i64 (-1)]) rfl ⟨rfl, trivial⟩ ⟨_, rfl, rfl, he4⟩

-- slices.Contains[[]string,string]
def F_slices_Contains_string_string (n : Nat) (a0_s : List ByteArray) (a1_v : ByteArray) : Option Bool := (Option.bind (F_slices_Index_string_string n a0_s a1_v) fun r3 => (some (decide (r3 ≥ 0))))
set_option maxHeartbeats 40000000 in
theorem W_slices_Contains_string_string {n : Nat} {a0_s : List ByteArray} {a1_v : ByteArray} {r : Bool} {w : World} {v1 : Value} (hF : F_slices_Contains_string_string n a0_s a1_v = some r) (ha2 : slRep cStr w (Iv 0 w.heap.size) a0_s v1) :
    Calls Tryz.prog 67 [v1, .string a1_v].toArray w (Ret fun u w2 => u = .bool r ∧ Ext w w2) := by
  refine calls_of Tryz.func67 rfl Tryz.ntmps67 ?_
  have he0 : Ext w w := Ext.refl w
  unfold F_slices_Contains_string_string at hF
  refine WC.seq ?_
  refine WC.region ?_
  refine TL.yld rfl rfl (yld_assign rfl rfl) ?_
  refine TL.done ?_
  refine NX.seq ?_
  refine WC.seq ?_
  refine WC.region ?_
  refine TL.yld rfl rfl (yld_move rfl rfl) ?_
  refine TL.yld rfl rfl (yld_move rfl rfl) ?_
  obtain ⟨r3, hr4, hF⟩ := bsome hF
  refine TL.eff rfl rfl (eff_call rfl gf_82 rfl (W_slices_Index_string_string hr4 ((slRep.old ha2 he0 (Nat.le_refl _)).wide (Nat.le_refl _) (he0).size))) ?_
  rintro _ w5 ⟨rfl, hx6⟩
  have he7 : Ext w w5 := Ext.trans he0 hx6
  have hz8 := (hx6).size
  refine TL.yld rfl rfl (yld_geq rfl rfl rfl) ?_
  refine TL.yld rfl rfl (yld_assign rfl rfl) ?_
  refine TL.done ?_
  refine NX.seq ?_
  refine WC.ret' ?_
  obtain rfl := Option.some.inj hF
  exact NX.end (rs := [.tmp 4]) (vs := [.bool (decide (r3 ≥ 0))]) rfl ⟨rfl, trivial⟩ ⟨_, rfl, rfl, he7⟩

-- loop.example/g00861/impl.areNames
def F_impl_areNames_L1 (n : Nat) (a0_list : List ByteArray) (k0 : Int → Option Bool) : Nat → Int → Option Bool
  | 0 => fun _ => none
  | m + 1 => fun i5 => (bif decide (i5 < (a0_list.length : Int)) then (Option.bind (getI a0_list i5) fun x7 => (Option.bind (F_impl_isName n x7) fun r15 => (Option.bind (bif (!r15) then (some true) else (Option.bind (subL a0_list 0 i5) fun z21 => (Option.bind (F_slices_Contains_string_string n z21 x7) fun r25 => (some r25)))) fun c21 => (bif c21 then (some false) else (F_impl_areNames_L1 n a0_list k0 m (IntKind.wrap IntKind.i64 (i5 + 1))))))) else (k0 i5))
theorem F_impl_areNames_L1_z (n : Nat) (a0_list : List ByteArray) (k0 : Int → Option Bool) (i5 : Int) : F_impl_areNames_L1 n a0_list k0 0 i5 = none := rfl
theorem F_impl_areNames_L1_s (m : Nat) (n : Nat) (a0_list : List ByteArray) (k0 : Int → Option Bool) (i5 : Int) : F_impl_areNames_L1 n a0_list k0 (m + 1) i5 = (bif decide (i5 < (a0_list.length : Int)) then (Option.bind (getI a0_list i5) fun x7 => (Option.bind (F_impl_isName n x7) fun r15 => (Option.bind (bif (!r15) then (some true) else (Option.bind (subL a0_list 0 i5) fun z21 => (Option.bind (F_slices_Contains_string_string n z21 x7) fun r25 => (some r25)))) fun c21 => (bif c21 then (some false) else (F_impl_areNames_L1 n a0_list k0 m (IntKind.wrap IntKind.i64 (i5 + 1))))))) else (k0 i5)) := rfl

def F_impl_areNames (n : Nat) (a0_list : List ByteArray) : Option Bool := (F_impl_areNames_L1 n a0_list (fun i5 => (some true)) n 0)
set_option maxHeartbeats 40000000 in
theorem W_impl_areNames {n : Nat} {a0_list : List ByteArray} {r : Bool} {w : World} {v1 : Value} (hF : F_impl_areNames n a0_list = some r) (ha2 : slRep cStr w (Iv 0 w.heap.size) a0_list v1) :
    Calls Tryz.prog 49 [v1].toArray w (Ret fun u w2 => u = .bool r ∧ Ext w w2) := by
  refine calls_of Tryz.func49 rfl Tryz.ntmps49 ?_
  have he0 : Ext w w := Ext.refl w
  unfold F_impl_areNames at hF
  refine WC.seq ?_
  refine WC.region ?_
  refine TL.yld rfl rfl (yld_assign rfl rfl) ?_
  refine TL.done ?_
  refine NX.seq ?_
  refine WC.seq ?_
  refine WC.seq ?_
  refine WC.region ?_
  refine TL.yld rfl rfl (yld_move rfl rfl) ?_
  refine TL.yld rfl rfl (ye_len (c := cStr) rfl Tryz.underlying80 rfl (slRep.old ha2 he0 (Nat.le_refl _))) ?_
  refine TL.yld rfl rfl (yld_move rfl rfl) ?_
  refine TL.done ?_
  refine NX.seq ?_
  refine WC.block ?_
  refine WC.loop (fun m6 a wl => ∃ (i5 : Int), Kn 23 [(0, v1), (5, v1), (6, .int .i64 ((a0_list.length : Int))), (7, .int .i64 i5)] a ∧ Ext w wl ∧ w.heap.size ≤ wl.heap.size ∧ F_impl_areNames_L1 n a0_list (fun i5 => (some true)) m6 i5 = some r) n ?_ ?_
  · intro a hK; exact ⟨0, hK.weaken ⟨rfl, rfl, rfl, rfl, trivial⟩, he0, Nat.le_refl _, hF⟩
  · rintro m6 a w3 ⟨i5, hK, he4, hz7, hF⟩
    revert hK; revert a; refine (?_ : WC _ _ _ _ _ _)
    cases m6 with
    | zero => rw [F_impl_areNames_L1_z] at hF; cases hF
    | succ m6 =>
      rw [F_impl_areNames_L1_s] at hF
      refine WC.seq ?_
      refine WC.region ?_
      refine TL.yld rfl rfl (yld_lss rfl rfl rfl) ?_
      refine TL.done ?_
      refine NX.seq ?_
      refine WC.seq ?_
      refine WC.cond rfl ?_ ?_
      · intro hc8
        replace hF := bif_t hc8 hF
        refine WC.skip' ?_
        refine NX.seq ?_
        refine WC.seq ?_
        refine WC.block ?_
        refine WC.seq ?_
        refine WC.region ?_
        refine TL.yld rfl rfl (yld_move rfl rfl) ?_
        obtain ⟨x9, hy10, hF⟩ := bsome hF
        refine TL.ye rfl rfl (ye_index (c := cStr) rfl Tryz.underlying80 cn_9 rfl rfl (slRep.old ha2 he4 (Nat.le_refl _)) hy10) ?_
        rintro _ ⟨b11, o12, us13, rfl, hib16, hr14, hcl15⟩
        have hib16 : 0 ≤ b11 ∧ b11 < w.heap.size := ⟨hib16.1, by have := hib16.2; omega⟩
        obtain rfl := hr14
        refine TL.yld rfl rfl (yld_load1 0 rfl ag_9 rfl hcl15 rfl rfl) ?_
        refine TL.yld rfl rfl (yld_assign rfl rfl) ?_
        refine TL.yld rfl rfl (yld_assign rfl rfl) ?_
        refine TL.done ?_
        refine NX.seq ?_
        refine WC.seq ?_
        refine WC.region ?_
        refine TL.yld rfl rfl (yld_move rfl rfl) ?_
        obtain ⟨r17, hr18, hF⟩ := bsome hF
        refine TL.eff rfl rfl (eff_call rfl gf_34 rfl (W_impl_isName hr18)) ?_
        rintro _ w19 ⟨rfl, hx20⟩
        have he21 : Ext w w19 := Ext.trans he4 hx20
        have hz22 := (hx20).size
        refine TL.yld rfl rfl (yld_not rfl rfl) ?_
        refine TL.yld rfl rfl (yld_move rfl rfl) ?_
        obtain ⟨c23, hb24, hF⟩ := bsome hF
        refine TL.cut 6 [(0, v1), (5, v1), (6, .int .i64 ((a0_list.length : Int))), (7, .int .i64 i5), (21, .bool c23)] (fun w' => Ext w19 w') ?_ ?_
        · rcases Bool.eq_false_or_eq_true (!r17) with hg25 | hg25
          ·
            rw [hg25] at hb24; simp only [cond_true, cond_false] at hb24
            refine TL.gnu (j := 3) (t := 15) rfl rfl rfl hg25 rfl ?_
            refine TL.gnu (j := 3) (t := 15) rfl rfl rfl hg25 rfl ?_
            refine TL.gnu (j := 3) (t := 15) rfl rfl rfl hg25 rfl ?_
            refine TL.gnu (j := 3) (t := 15) rfl rfl rfl hg25 rfl ?_
            refine TL.gnu (j := 3) (t := 15) rfl rfl rfl hg25 rfl ?_
            obtain rfl := Option.some.inj hb24
            refine TL.yld rfl rfl (yld_pick_t rfl rfl hg25 rfl) ?_
            exact TL.nil fun a h => ⟨h.weaken ⟨rfl, rfl, rfl, rfl, rfl, trivial⟩, Ext.refl _⟩
          ·
            rw [hg25] at hb24; simp only [cond_true, cond_false] at hb24
            replace hF := hb24
            refine TL.gy (j := 3) (t := 15) rfl rfl rfl hg25 rfl (yld_move rfl rfl) ?_
            refine TL.gy (j := 3) (t := 15) rfl rfl rfl hg25 rfl (yld_move rfl rfl) ?_
            obtain ⟨z26, hz27, hF⟩ := bsome hF
            refine TL.yeg (j := 3) (t := 15) rfl rfl rfl hg25 rfl (ye_slice_to (c := cStr) rfl Tryz.underlying80 cn_9 rfl rfl (slRep.old ha2 he21 (Nat.le_refl _)) hz27) ?_
            rintro v28 hs29
            refine TL.gy (j := 3) (t := 15) rfl rfl rfl hg25 rfl (yld_move rfl rfl) ?_
            obtain ⟨r30, hr31, hF⟩ := bsome hF
            refine TL.ge (j := 3) (t := 15) rfl rfl rfl hg25 rfl (eff_call rfl gf_67 rfl (W_slices_Contains_string_string hr31 (hs29.wide (Nat.zero_le _) (by omega)))) ?_
            rintro _ w32 ⟨rfl, hx33⟩
            have hz35 := (hx33).size
            obtain rfl := Option.some.inj hF
            refine TL.yld rfl rfl (yld_pick_f rfl rfl hg25 rfl) ?_
            exact TL.nil fun a h => ⟨h.weaken ⟨rfl, rfl, rfl, rfl, rfl, trivial⟩, hx33⟩
        intro w36 hx37
        have he38 : Ext w w36 := Ext.trans he21 hx37
        have hz39 := (hx37).size
        refine TL.done ?_
        refine NX.seq ?_
        refine WC.cond rfl ?_ ?_
        · intro hc40
          replace hF := bif_t hc40 hF
          refine WC.seq ?_
          refine WC.region ?_
          refine TL.yld rfl rfl (yld_assign rfl rfl) ?_
          refine TL.done ?_
          refine NX.seq ?_
          refine WC.ret' ?_
          refine NX.blk_r ?_
          refine NX.then_r ?_
          refine NX.then_r ?_
          refine NX.blk_r ?_
          refine NX.then_r ?_
          obtain rfl := Option.some.inj hF
          exact NX.end (rs := [.tmp 2]) (vs := [.bool false]) rfl ⟨rfl, trivial⟩ ⟨_, rfl, rfl, he38⟩
        · intro hc41
          replace hF := bif_f hc41 hF
          refine WC.skip' ?_
          refine NX.blk_n ?_
          refine NX.seq ?_
          refine WC.region ?_
          refine TL.yld rfl rfl (yld_add rfl rfl rfl) ?_
          refine TL.yld rfl rfl (yld_move rfl rfl) ?_
          refine TL.done ?_
          refine NX.then_n ?_
          intro a hK; exact ⟨m6, Nat.lt_succ_self m6, (IntKind.wrap IntKind.i64 (i5 + 1)), hK.weaken ⟨rfl, rfl, rfl, rfl, trivial⟩, he38, (by omega), hF⟩
      · intro hc42
        replace hF := bif_f hc42 hF
        refine WC.exit' ?_
        refine NX.then_e ?_
        refine NX.then_e ?_
        refine NX.blk_hit ?_
        refine NX.seq ?_
        refine WC.seq ?_
        refine WC.region ?_
        refine TL.yld rfl rfl (yld_assign rfl rfl) ?_
        refine TL.done ?_
        refine NX.seq ?_
        refine WC.ret' ?_
        obtain rfl := Option.some.inj hF
        exact NX.end (rs := [.tmp 2]) (vs := [.bool true]) rfl ⟨rfl, trivial⟩ ⟨_, rfl, rfl, he4⟩

-- loop.example/g00861/impl.arePins
def F_impl_arePins_L1 (n : Nat) (a0_list : List S_Pin) (k0 : (List ByteArray) → Int → Option Bool) : Nat → (List ByteArray) → Int → Option Bool
  | 0 => fun _ _ => none
  | m + 1 => fun l8 i12 => (bif decide (i12 < (a0_list.length : Int)) then (Option.bind (getI a0_list i12) fun x14 => (Option.bind (appN l8 [x14.Name] 16) fun z47 => (bif (i12 == (IntKind.wrap IntKind.i64 (((a0_list.length : Int)) - 1))) then (bif (((((x14.Dir != 2)) || ((x14.Cap != 0)))) || x14.Clock) then (some false) else (F_impl_arePins_L1 n a0_list k0 m z47 (IntKind.wrap IntKind.i64 (i12 + 1)))) else (Option.bind (bif (x14.Dir != 1) then (some true) else (Option.bind (F_impl_within n x14.Cap 0 500) fun r74 => (some (!r74)))) fun c74 => (bif c74 then (some false) else (F_impl_arePins_L1 n a0_list k0 m z47 (IntKind.wrap IntKind.i64 (i12 + 1)))))))) else (k0 l8 i12))
theorem F_impl_arePins_L1_z (n : Nat) (a0_list : List S_Pin) (k0 : (List ByteArray) → Int → Option Bool) (l8 : List ByteArray) (i12 : Int) : F_impl_arePins_L1 n a0_list k0 0 l8 i12 = none := rfl
theorem F_impl_arePins_L1_s (m : Nat) (n : Nat) (a0_list : List S_Pin) (k0 : (List ByteArray) → Int → Option Bool) (l8 : List ByteArray) (i12 : Int) : F_impl_arePins_L1 n a0_list k0 (m + 1) l8 i12 = (bif decide (i12 < (a0_list.length : Int)) then (Option.bind (getI a0_list i12) fun x14 => (Option.bind (appN l8 [x14.Name] 16) fun z47 => (bif (i12 == (IntKind.wrap IntKind.i64 (((a0_list.length : Int)) - 1))) then (bif (((((x14.Dir != 2)) || ((x14.Cap != 0)))) || x14.Clock) then (some false) else (F_impl_arePins_L1 n a0_list k0 m z47 (IntKind.wrap IntKind.i64 (i12 + 1)))) else (Option.bind (bif (x14.Dir != 1) then (some true) else (Option.bind (F_impl_within n x14.Cap 0 500) fun r74 => (some (!r74)))) fun c74 => (bif c74 then (some false) else (F_impl_arePins_L1 n a0_list k0 m z47 (IntKind.wrap IntKind.i64 (i12 + 1)))))))) else (k0 l8 i12)) := rfl

def F_impl_arePins (n : Nat) (a0_list : List S_Pin) : Option Bool := (F_impl_arePins_L1 n a0_list (fun l8 i12 => (Option.bind (F_impl_length_impl_Pin n a0_list) fun r13 => (Option.bind (F_impl_within n r13 2 5) fun r19 => (Option.bind (bif r19 then (Option.bind (F_impl_areNames n l8) fun r25 => (some r25)) else (some false)) fun c25 => (some c25))))) n (([] : List ByteArray)) 0)
set_option maxHeartbeats 40000000 in
theorem W_impl_arePins {n : Nat} {a0_list : List S_Pin} {r : Bool} {w : World} {v1 : Value} (hF : F_impl_arePins n a0_list = some r) (ha2 : slRep C_Pin w (Iv 0 w.heap.size) a0_list v1) :
    Calls Tryz.prog 35 [v1].toArray w (Ret fun u w2 => u = .bool r ∧ Ext w w2) := by
  refine calls_of Tryz.func35 rfl Tryz.ntmps35 ?_
  have he0 : Ext w w := Ext.refl w
  unfold F_impl_arePins at hF
  refine WC.seq ?_
  refine WC.region ?_
  refine TL.yld rfl rfl (yld_assign rfl rfl) ?_
  refine TL.done ?_
  refine NX.seq ?_
  refine WC.seq ?_
  refine WC.region ?_
  refine TL.yld rfl rfl (yld_assign rfl rfl) ?_
  refine TL.done ?_
  refine NX.seq ?_
  refine WC.seq ?_
  refine WC.seq ?_
  refine WC.region ?_
  refine TL.yld rfl rfl (yld_move rfl rfl) ?_
  refine TL.yld rfl rfl (ye_len (c := C_Pin) rfl Tryz.underlying29 rfl (slRep.old ha2 he0 (Nat.le_refl _))) ?_
  refine TL.yld rfl rfl (yld_move rfl rfl) ?_
  refine TL.done ?_
  refine NX.seq ?_
  refine WC.block ?_
  have hs5 : ownR cStr w (w.heap.size) (Iv 0 0) 9 [] (.slice none 0 0) := ownR.nil _ _ _ _ _
  have hbd6 : ∀ q, (Value.slice none 0 0).ownBlock = some q → w.heap.size ≤ q ∧ q < w.heap.size := bd_nil
  refine WC.loop (fun m13 a wl => ∃ (l8 : List ByteArray) (v9 : Value) (i12 : Int), Kn 52 [(0, v1), (3, v9), (6, v1), (7, .int .i64 ((a0_list.length : Int))), (8, .int .i64 i12)] a ∧ Ext w wl ∧ w.heap.size ≤ wl.heap.size ∧ ownR cStr wl (w.heap.size) (Iv 0 0) 9 l8 v9 ∧ (∀ q, v9.ownBlock = some q → w.heap.size ≤ q ∧ q < wl.heap.size) ∧ F_impl_arePins_L1 n a0_list (fun l8 i12 => (Option.bind (F_impl_length_impl_Pin n a0_list) fun r13 => (Option.bind (F_impl_within n r13 2 5) fun r19 => (Option.bind (bif r19 then (Option.bind (F_impl_areNames n l8) fun r25 => (some r25)) else (some false)) fun c25 => (some c25))))) m13 l8 i12 = some r) n ?_ ?_
  · intro a hK; exact ⟨(([] : List ByteArray)), ((.slice none 0 0)), 0, hK.weaken ⟨rfl, rfl, rfl, rfl, rfl, trivial⟩, he0, Nat.le_refl _, hs5, (fun g hg => by have := hbd6 g hg; omega), hF⟩
  · rintro m13 a w3 ⟨l8, v9, i12, hK, he4, hz14, hs10, hbd11, hF⟩
    revert hK; revert a; refine (?_ : WC _ _ _ _ _ _)
    cases m13 with
    | zero => rw [F_impl_arePins_L1_z] at hF; cases hF
    | succ m13 =>
      rw [F_impl_arePins_L1_s] at hF
      refine WC.seq ?_
      refine WC.region ?_
      refine TL.yld rfl rfl (yld_lss rfl rfl rfl) ?_
      refine TL.done ?_
      refine NX.seq ?_
      refine WC.seq ?_
      refine WC.cond rfl ?_ ?_
      · intro hc15
        replace hF := bif_t hc15 hF
        refine WC.skip' ?_
        refine NX.seq ?_
        refine WC.seq ?_
        refine WC.block ?_
        refine WC.seq ?_
        refine WC.region ?_
        refine TL.yld rfl rfl (yld_move rfl rfl) ?_
        obtain ⟨x16, hy17, hF⟩ := bsome hF
        refine TL.ye rfl rfl (ye_index (c := C_Pin) rfl Tryz.underlying29 cn_67 rfl rfl (slRep.old ha2 he4 (Nat.le_refl _)) hy17) ?_
        rintro _ ⟨b18, o19, us20, rfl, hib23, hr21, hcl22⟩
        have hib23 : 0 ≤ b18 ∧ b18 < w.heap.size := ⟨hib23.1, by have := hib23.2; omega⟩
        obtain rfl := C_Pin_open hr21
        refine TL.yld rfl rfl (yld_loadN (us := [.string x16.Name, .int .i64 x16.Dir, .int .i64 x16.Cap, .bool x16.Clock]) rfl ag_67 rfl hcl22 cn_67) ?_
        refine TL.eff rfl rfl (eff_alloc rfl zn_67) ?_
        rintro _ w25 ⟨b24, rfl, hn26⟩
        obtain ⟨hn26e, hn26s, hn26x, hb27⟩ := hn26
        have hb27 : Box w25 b24 [.string ByteArray.empty, .int .i64 0, .int .i64 0, .bool false] 67 := hb27
        have he29 : Ext w w25 := Ext.trans he4 hn26x
        have hs10 := ownR.ext hs10 hn26x
        have hz30 := (hn26x).size
        have hlo28 : w.heap.size ≤ b24 := by rw [hn26e]; exact (he4).size
        refine TL.yld rfl rfl (yld_assign rfl rfl) ?_
        refine TL.eff rfl rfl (eff_store rfl rfl rfl hb27 cn_67 rfl rfl) ?_
        rintro _ w31 ⟨hu32, hb33⟩
        have he34 : Ext w w31 := Below.trans he29 (Upd.below hu32 (by omega))
        have hs10 := ownR.upd hs10 hu32 (fun g hg => by have := hbd11 g hg; omega)
        have hz35 := (hu32).size
        have hb27 : Box w31 b24 [.string x16.Name, .int .i64 x16.Dir, .int .i64 x16.Cap, .bool x16.Clock] 67 := hb33
        refine TL.done ?_
        refine NX.seq ?_
        refine WC.seq ?_
        refine WC.region ?_
        refine TL.yld rfl rfl (yld_move rfl rfl) ?_
        refine TL.yld rfl rfl (yld_fieldAddr rfl fo_67_0 rfl) ?_
        refine TL.yld rfl rfl (yld_load1 0 rfl ag_9 rfl (Box.cells hb27) rfl rfl) ?_
        refine TL.eff rfl rfl (eff_buildSlice (c := cStr) (xs := [x16.Name]) (S := (Iv 0 0)) (uss := [(0, [.string x16.Name])]) (out := [.string x16.Name]) rfl Tryz.underlying80 in_9 rfl rfl (fillL_all [[.string x16.Name]] rfl rfl rfl) rfl rfl rfl rfl (one_rep (uss := [[.string x16.Name]]) (show reps _ _ _ _ _ from ⟨rfl, trivial⟩) rfl) (fun k h => by have := h.2; omega) rfl) ?_
        rintro v36 w37 ⟨g38, hv39, hg40, hz41, hx42, hs43⟩
        have he44 : Ext w w37 := Ext.trans he34 hx42
        have hb27 := Box.ext hb27 hx42
        have hs10 := ownR.ext hs10 hx42
        have hz45 := (hx42).size
        have hlo46 : w.heap.size ≤ g38 := by rw [hg40]; exact (he34).size
        have hbd47 := bd_of hv39
        clear hv39
        obtain ⟨z49, ha50, hF⟩ := bsome hF
        refine TL.eff rfl rfl (eff_appendF (c := cStr) rfl Tryz.underlying80 in_9 rfl rfl rfl rfl rfl hs10 (by omega) (ownR.slf hs43 (Nat.le_refl _) (Nat.le_refl _)) ha50) ?_
        rintro v51 w52 ⟨hs53, hgr54⟩
        have he56 : Ext w w52 := Below.trans he44 (Grew.low hgr54 (fun g hg => by have := hbd11 g hg; omega) (he44).size)
        have hp57 : ∀ g, v51.ownBlock = some g → g ≠ b24 := Grew.sepP (p := fun g => g ≠ b24) hgr54 (fun g hg => by have := hbd11 g hg; omega) (fun g hg => by omega)
        have hb27 := Grew.box hgr54 hb27 (fun g hg => by have := hbd11 g hg; omega)
        have hp58 : ∀ g q, v9.ownBlock = some g → v36.ownBlock = some q → g ≠ q := (fun g q hg hq => by have := hbd11 g hg; have := hbd47 q hq; omega)
        have hp59 : ∀ g q, v51.ownBlock = some g → v36.ownBlock = some q → g ≠ q := fun g q hg hq => Grew.sepP (p := fun g => ∀ q, v36.ownBlock = some q → g ≠ q) hgr54 (fun g hg q hq => (hp58) g q hg hq) (fun g hg q hq => by have := hbd47 q hq; omega) g hg q hq
        have hz60 := (hgr54).1.size
        have hbd61 : ∀ g, v51.ownBlock = some g → w.heap.size ≤ g ∧ g < w52.heap.size := Grew.bd hgr54 hs53 (fun g hg => ⟨by have := hbd11 g hg; omega, (hbd11 g hg).2⟩) (by omega) (by omega)
        refine TL.yld rfl rfl (yld_assign rfl rfl) ?_
        refine TL.done ?_
        refine NX.seq ?_
        refine WC.seq ?_
        refine WC.region ?_
        refine TL.yld rfl rfl (yld_move rfl rfl) ?_
        refine TL.yld rfl rfl (yld_move rfl rfl) ?_
        refine TL.yld rfl rfl (ye_len (c := C_Pin) rfl Tryz.underlying29 rfl (slRep.old ha2 he56 (Nat.le_refl _))) ?_
        refine TL.yld rfl rfl (yld_sub rfl rfl rfl) ?_
        refine TL.yld rfl rfl (yld_eql rfl rfl rfl) ?_
        refine TL.done ?_
        refine NX.seq ?_
        refine WC.cond rfl ?_ ?_
        · intro hc62
          replace hF := bif_t hc62 hF
          refine WC.seq ?_
          refine WC.region ?_
          refine TL.yld rfl rfl (yld_fieldAddr rfl fo_67_1 rfl) ?_
          refine TL.yld rfl rfl (yld_load1 1 rfl ag_2 rfl (Box.cells hb27) rfl rfl) ?_
          refine TL.yld rfl rfl (yld_neq rfl rfl rfl) ?_
          refine TL.yld rfl rfl (yld_move rfl rfl) ?_
          refine TL.cut 4 [(0, v1), (3, v51), (5, .pointer (some ⟨b24, 0, none⟩)), (6, v1), (7, .int .i64 ((a0_list.length : Int))), (8, .int .i64 i12), (30, .bool ((((x16.Dir != 2)) || ((x16.Cap != 0)))))] (fun w' => Ext w52 w') ?_ ?_
          · rcases Bool.eq_false_or_eq_true ((x16.Dir != 2)) with hg63 | hg63
            ·
              refine TL.gnu (j := 3) (t := 26) rfl rfl rfl hg63 rfl ?_
              refine TL.gnu (j := 3) (t := 26) rfl rfl rfl hg63 rfl ?_
              refine TL.gnu (j := 3) (t := 26) rfl rfl rfl hg63 rfl ?_
              refine TL.yld rfl rfl (yld_or_t (b2 := (x16.Cap != 0)) rfl rfl hg63 rfl) ?_
              exact TL.nil fun a h => ⟨h.weaken ⟨rfl, rfl, rfl, rfl, rfl, rfl, rfl, trivial⟩, Ext.refl _⟩
            ·
              refine TL.gy (j := 3) (t := 26) rfl rfl rfl hg63 rfl (yld_fieldAddr rfl fo_67_2 rfl) ?_
              refine TL.gy (j := 3) (t := 26) rfl rfl rfl hg63 rfl (yld_load1 2 rfl ag_2 rfl (Box.cells hb27) rfl rfl) ?_
              refine TL.gy (j := 3) (t := 26) rfl rfl rfl hg63 rfl (yld_neq rfl rfl rfl) ?_
              refine TL.yld rfl rfl (yld_or_f rfl rfl hg63 rfl) ?_
              exact TL.nil fun a h => ⟨h.weaken ⟨rfl, rfl, rfl, rfl, rfl, rfl, rfl, trivial⟩, Ext.refl _⟩
          intro w64 hx65
          have he66 : Ext w w64 := Ext.trans he56 hx65
          have hb27 := Box.ext hb27 hx65
          have hs53 := ownR.ext hs53 hx65
          have hz67 := (hx65).size
          refine TL.yld rfl rfl (yld_move rfl rfl) ?_
          refine TL.cut 3 [(0, v1), (3, v51), (6, v1), (7, .int .i64 ((a0_list.length : Int))), (8, .int .i64 i12), (34, .bool ((((((x16.Dir != 2)) || ((x16.Cap != 0)))) || x16.Clock)))] (fun w' => Ext w64 w') ?_ ?_
          · rcases Bool.eq_false_or_eq_true ((((x16.Dir != 2)) || ((x16.Cap != 0)))) with hg68 | hg68
            ·
              refine TL.gnu (j := 8) (t := 31) rfl rfl rfl hg68 rfl ?_
              refine TL.gnu (j := 8) (t := 31) rfl rfl rfl hg68 rfl ?_
              refine TL.yld rfl rfl (yld_or_t (b2 := x16.Clock) rfl rfl hg68 rfl) ?_
              exact TL.nil fun a h => ⟨h.weaken ⟨rfl, rfl, rfl, rfl, rfl, rfl, trivial⟩, Ext.refl _⟩
            ·
              refine TL.gy (j := 8) (t := 31) rfl rfl rfl hg68 rfl (yld_fieldAddr rfl fo_67_3 rfl) ?_
              refine TL.gy (j := 8) (t := 31) rfl rfl rfl hg68 rfl (yld_load1 3 rfl ag_4 rfl (Box.cells hb27) rfl rfl) ?_
              refine TL.yld rfl rfl (yld_or_f rfl rfl hg68 rfl) ?_
              exact TL.nil fun a h => ⟨h.weaken ⟨rfl, rfl, rfl, rfl, rfl, rfl, trivial⟩, Ext.refl _⟩
          intro w69 hx70
          have he71 : Ext w w69 := Ext.trans he66 hx70
          have hb27 := Box.ext hb27 hx70
          have hs53 := ownR.ext hs53 hx70
          have hz72 := (hx70).size
          refine TL.done ?_
          refine NX.seq ?_
          refine WC.cond rfl ?_ ?_
          · intro hc73
            replace hF := bif_t hc73 hF
            refine WC.seq ?_
            refine WC.region ?_
            refine TL.yld rfl rfl (yld_assign rfl rfl) ?_
            refine TL.done ?_
            refine NX.seq ?_
            refine WC.ret' ?_
            refine NX.blk_r ?_
            refine NX.then_r ?_
            refine NX.then_r ?_
            refine NX.blk_r ?_
            refine NX.then_r ?_
            obtain rfl := Option.some.inj hF
            exact NX.end (rs := [.tmp 2]) (vs := [.bool false]) rfl ⟨rfl, trivial⟩ ⟨_, rfl, rfl, he71⟩
          · intro hc74
            replace hF := bif_f hc74 hF
            refine WC.skip' ?_
            refine NX.blk_n ?_
            refine NX.seq ?_
            refine WC.region ?_
            refine TL.yld rfl rfl (yld_add rfl rfl rfl) ?_
            refine TL.yld rfl rfl (yld_move rfl rfl) ?_
            refine TL.done ?_
            refine NX.then_n ?_
            intro a hK; exact ⟨m13, Nat.lt_succ_self m13, z49, v51, (IntKind.wrap IntKind.i64 (i12 + 1)), hK.weaken ⟨rfl, rfl, rfl, rfl, rfl, trivial⟩, he71, (by omega), hs53, (fun g hg => by have := hbd61 g hg; omega), hF⟩
        · intro hc75
          replace hF := bif_f hc75 hF
          refine WC.seq ?_
          refine WC.region ?_
          refine TL.yld rfl rfl (yld_fieldAddr rfl fo_67_1 rfl) ?_
          refine TL.yld rfl rfl (yld_load1 1 rfl ag_2 rfl (Box.cells hb27) rfl rfl) ?_
          refine TL.yld rfl rfl (yld_neq rfl rfl rfl) ?_
          refine TL.yld rfl rfl (yld_move rfl rfl) ?_
          obtain ⟨c76, hb77, hF⟩ := bsome hF
          refine TL.cut 5 [(0, v1), (3, v51), (6, v1), (7, .int .i64 ((a0_list.length : Int))), (8, .int .i64 i12), (43, .bool c76)] (fun w' => Ext w52 w') ?_ ?_
          · rcases Bool.eq_false_or_eq_true ((x16.Dir != 1)) with hg78 | hg78
            ·
              rw [hg78] at hb77; simp only [cond_true, cond_false] at hb77
              refine TL.gnu (j := 3) (t := 38) rfl rfl rfl hg78 rfl ?_
              refine TL.gnu (j := 3) (t := 38) rfl rfl rfl hg78 rfl ?_
              refine TL.gnu (j := 3) (t := 38) rfl rfl rfl hg78 rfl ?_
              refine TL.gnu (j := 3) (t := 38) rfl rfl rfl hg78 rfl ?_
              obtain rfl := Option.some.inj hb77
              refine TL.yld rfl rfl (yld_pick_t rfl rfl hg78 rfl) ?_
              exact TL.nil fun a h => ⟨h.weaken ⟨rfl, rfl, rfl, rfl, rfl, rfl, trivial⟩, Ext.refl _⟩
            ·
              rw [hg78] at hb77; simp only [cond_true, cond_false] at hb77
              replace hF := hb77
              refine TL.gy (j := 3) (t := 38) rfl rfl rfl hg78 rfl (yld_fieldAddr rfl fo_67_2 rfl) ?_
              refine TL.gy (j := 3) (t := 38) rfl rfl rfl hg78 rfl (yld_load1 2 rfl ag_2 rfl (Box.cells hb27) rfl rfl) ?_
              obtain ⟨r79, hr80, hF⟩ := bsome hF
              refine TL.ge (j := 3) (t := 38) rfl rfl rfl hg78 rfl (eff_call rfl gf_37 rfl (W_impl_within hr80)) ?_
              rintro _ w81 ⟨rfl, hx82⟩
              have hs53 := ownR.ext hs53 hx82
              have hz84 := (hx82).size
              refine TL.gy (j := 3) (t := 38) rfl rfl rfl hg78 rfl (yld_not rfl rfl) ?_
              obtain rfl := Option.some.inj hF
              refine TL.yld rfl rfl (yld_pick_f rfl rfl hg78 rfl) ?_
              exact TL.nil fun a h => ⟨h.weaken ⟨rfl, rfl, rfl, rfl, rfl, rfl, trivial⟩, hx82⟩
          intro w85 hx86
          have he87 : Ext w w85 := Ext.trans he56 hx86
          have hs53 := ownR.ext hs53 hx86
          have hz88 := (hx86).size
          refine TL.done ?_
          refine NX.seq ?_
          refine WC.cond rfl ?_ ?_
          · intro hc89
            replace hF := bif_t hc89 hF
            refine WC.seq ?_
            refine WC.region ?_
            refine TL.yld rfl rfl (yld_assign rfl rfl) ?_
            refine TL.done ?_
            refine NX.seq ?_
            refine WC.ret' ?_
            refine NX.blk_r ?_
            refine NX.then_r ?_
            refine NX.then_r ?_
            refine NX.blk_r ?_
            refine NX.then_r ?_
            obtain rfl := Option.some.inj hF
            exact NX.end (rs := [.tmp 2]) (vs := [.bool false]) rfl ⟨rfl, trivial⟩ ⟨_, rfl, rfl, he87⟩
          · intro hc90
            replace hF := bif_f hc90 hF
            refine WC.skip' ?_
            refine NX.blk_n ?_
            refine NX.seq ?_
            refine WC.region ?_
            refine TL.yld rfl rfl (yld_add rfl rfl rfl) ?_
            refine TL.yld rfl rfl (yld_move rfl rfl) ?_
            refine TL.done ?_
            refine NX.then_n ?_
            intro a hK; exact ⟨m13, Nat.lt_succ_self m13, z49, v51, (IntKind.wrap IntKind.i64 (i12 + 1)), hK.weaken ⟨rfl, rfl, rfl, rfl, rfl, trivial⟩, he87, (by omega), hs53, (fun g hg => by have := hbd61 g hg; omega), hF⟩
      · intro hc91
        replace hF := bif_f hc91 hF
        refine WC.exit' ?_
        refine NX.then_e ?_
        refine NX.then_e ?_
        refine NX.blk_hit ?_
        refine NX.seq ?_
        refine WC.seq ?_
        refine WC.region ?_
        refine TL.yld rfl rfl (yld_move rfl rfl) ?_
        obtain ⟨r92, hr93, hF⟩ := bsome hF
        refine TL.eff rfl rfl (eff_call rfl gf_48 rfl (W_impl_length_impl_Pin hr93 ((slRep.old ha2 he4 (Nat.le_refl _)).wide (Nat.le_refl _) (he4).size))) ?_
        rintro _ w94 ⟨rfl, hx95⟩
        have he96 : Ext w w94 := Ext.trans he4 hx95
        have hs10 := ownR.ext hs10 hx95
        have hz97 := (hx95).size
        obtain ⟨r98, hr99, hF⟩ := bsome hF
        refine TL.eff rfl rfl (eff_call rfl gf_37 rfl (W_impl_within hr99)) ?_
        rintro _ w100 ⟨rfl, hx101⟩
        have he102 : Ext w w100 := Ext.trans he96 hx101
        have hs10 := ownR.ext hs10 hx101
        have hz103 := (hx101).size
        refine TL.yld rfl rfl (yld_move rfl rfl) ?_
        obtain ⟨c104, hb105, hF⟩ := bsome hF
        refine TL.cut 3 [(51, .bool c104)] (fun w' => Ext w100 w') ?_ ?_
        · rcases Bool.eq_false_or_eq_true r98 with hg106 | hg106
          ·
            rw [hg106] at hb105; simp only [cond_true, cond_false] at hb105
            replace hF := hb105
            refine TL.gy (j := 3) (t := 48) rfl rfl rfl hg106 rfl (yld_move rfl rfl) ?_
            obtain ⟨r107, hr108, hF⟩ := bsome hF
            refine TL.ge (j := 3) (t := 48) rfl rfl rfl hg106 rfl (eff_call rfl gf_49 rfl (W_impl_areNames hr108 (ownR.slf hs10 (Nat.zero_le _) (Nat.le_refl _)))) ?_
            rintro _ w109 ⟨rfl, hx110⟩
            have hz112 := (hx110).size
            obtain rfl := Option.some.inj hF
            refine TL.yld rfl rfl (yld_pick_t rfl rfl hg106 rfl) ?_
            exact TL.nil fun a h => ⟨h.weaken ⟨rfl, trivial⟩, hx110⟩
          ·
            rw [hg106] at hb105; simp only [cond_true, cond_false] at hb105
            refine TL.gnu (j := 3) (t := 48) rfl rfl rfl hg106 rfl ?_
            refine TL.gnu (j := 3) (t := 48) rfl rfl rfl hg106 rfl ?_
            obtain rfl := Option.some.inj hb105
            refine TL.yld rfl rfl (yld_pick_f rfl rfl hg106 rfl) ?_
            exact TL.nil fun a h => ⟨h.weaken ⟨rfl, trivial⟩, Ext.refl _⟩
        intro w113 hx114
        have he115 : Ext w w113 := Ext.trans he102 hx114
        have hz116 := (hx114).size
        refine TL.yld rfl rfl (yld_assign rfl rfl) ?_
        refine TL.done ?_
        refine NX.seq ?_
        refine WC.ret' ?_
        obtain rfl := Option.some.inj hF
        exact NX.end (rs := [.tmp 2]) (vs := [.bool c104]) rfl ⟨rfl, trivial⟩ ⟨_, rfl, rfl, he115⟩

-- (loop.example/g00861/impl.Cell).output
def F_impl_Cell_output (n : Nat) (a0_c : S_Cell) : Option Int := (Option.bind (F_impl_length_impl_Pin n a0_c.Pins) fun r14 => (some (IntKind.wrap IntKind.i64 (r14 - 1))))
set_option maxHeartbeats 40000000 in
theorem W_impl_Cell_output {n : Nat} {a0_c : S_Cell} {r : Int} {w : World} {v1 : Value} {v3 : Value} {v5 : Value} (hF : F_impl_Cell_output n a0_c = some r) (ha2 : slRep C_Pin w (Iv 0 w.heap.size) a0_c.Pins v1) (ha4 : slRep C_Arc w (Iv 0 w.heap.size) a0_c.Arcs v3) (ha6 : slRep (cInt .i64) w (Iv 0 w.heap.size) a0_c.Truth v5) :
    Calls Tryz.prog 39 [.agg #[.string a0_c.Name, .int .i64 a0_c.Kind, v1, v3, v5, .int .i64 a0_c.Leak, .int .i64 a0_c.Energy]].toArray w (Ret fun u w2 => u = .int .i64 r ∧ Ext w w2) := by
  refine calls_of Tryz.func39 rfl Tryz.ntmps39 ?_
  have he0 : Ext w w := Ext.refl w
  unfold F_impl_Cell_output at hF
  refine WC.seq ?_
  refine WC.region ?_
  refine TL.eff rfl rfl (eff_box rfl rfl) ?_
  rintro _ w8 ⟨b7, rfl, hn9⟩
  obtain ⟨hn9e, hn9s, hn9x, hb10⟩ := hn9
  have hb10 : Box w8 b7 [.string a0_c.Name, .int .i64 a0_c.Kind, v1, v3, v5, .int .i64 a0_c.Leak, .int .i64 a0_c.Energy] 32 := hb10
  have he12 : Ext w w8 := Ext.trans he0 hn9x
  have hz13 := (hn9x).size
  have hlo11 : w.heap.size ≤ b7 := by rw [hn9e]; exact (he0).size
  refine TL.yld rfl rfl (yld_assign rfl rfl) ?_
  refine TL.done ?_
  refine NX.seq ?_
  refine WC.seq ?_
  refine WC.region ?_
  refine TL.yld rfl rfl (yld_fieldAddr rfl fo_32_2 rfl) ?_
  refine TL.yld rfl rfl (yld_load1 2 rfl ag_29 rfl (Box.cells hb10) rfl rfl) ?_
  obtain ⟨r14, hr15, hF⟩ := bsome hF
  refine TL.eff rfl rfl (eff_call rfl gf_48 rfl (W_impl_length_impl_Pin hr15 ((slRep.old ha2 he12 (Nat.le_refl _)).wide (Nat.le_refl _) (he12).size))) ?_
  rintro _ w16 ⟨rfl, hx17⟩
  have he18 : Ext w w16 := Ext.trans he12 hx17
  have hz19 := (hx17).size
  refine TL.yld rfl rfl (yld_sub rfl rfl rfl) ?_
  refine TL.yld rfl rfl (yld_assign rfl rfl) ?_
  refine TL.done ?_
  refine NX.seq ?_
  refine WC.ret' ?_
  obtain rfl := Option.some.inj hF
  exact NX.end (rs := [.tmp 2]) (vs := [.int .i64 (IntKind.wrap IntKind.i64 (r14 - 1))]) rfl ⟨rfl, trivial⟩ ⟨_, rfl, rfl, he18⟩

-- (loop.example/g00861/impl.Cell).isInput
def F_impl_Cell_isInput (n : Nat) (a0_c : S_Cell) (a1_pin : Int) : Option Bool := (Option.bind (F_impl_Cell_output n a0_c) fun r14 => (Option.bind (F_impl_within n a1_pin 0 (IntKind.wrap IntKind.i64 (r14 - 1))) fun r20 => (some r20)))
set_option maxHeartbeats 40000000 in
theorem W_impl_Cell_isInput {n : Nat} {a0_c : S_Cell} {a1_pin : Int} {r : Bool} {w : World} {v1 : Value} {v3 : Value} {v5 : Value} (hF : F_impl_Cell_isInput n a0_c a1_pin = some r) (ha2 : slRep C_Pin w (Iv 0 w.heap.size) a0_c.Pins v1) (ha4 : slRep C_Arc w (Iv 0 w.heap.size) a0_c.Arcs v3) (ha6 : slRep (cInt .i64) w (Iv 0 w.heap.size) a0_c.Truth v5) :
    Calls Tryz.prog 19 [.agg #[.string a0_c.Name, .int .i64 a0_c.Kind, v1, v3, v5, .int .i64 a0_c.Leak, .int .i64 a0_c.Energy], .int .i64 a1_pin].toArray w (Ret fun u w2 => u = .bool r ∧ Ext w w2) := by
  refine calls_of Tryz.func19 rfl Tryz.ntmps19 ?_
  have he0 : Ext w w := Ext.refl w
  unfold F_impl_Cell_isInput at hF
  refine WC.seq ?_
  refine WC.region ?_
  refine TL.eff rfl rfl (eff_box rfl rfl) ?_
  rintro _ w8 ⟨b7, rfl, hn9⟩
  obtain ⟨hn9e, hn9s, hn9x, hb10⟩ := hn9
  have hb10 : Box w8 b7 [.string a0_c.Name, .int .i64 a0_c.Kind, v1, v3, v5, .int .i64 a0_c.Leak, .int .i64 a0_c.Energy] 32 := hb10
  have he12 : Ext w w8 := Ext.trans he0 hn9x
  have hz13 := (hn9x).size
  have hlo11 : w.heap.size ≤ b7 := by rw [hn9e]; exact (he0).size
  refine TL.yld rfl rfl (yld_assign rfl rfl) ?_
  refine TL.done ?_
  refine NX.seq ?_
  refine WC.seq ?_
  refine WC.region ?_
  refine TL.yld rfl rfl (yld_move rfl rfl) ?_
  refine TL.yld rfl rfl (yld_loadN (us := [.string a0_c.Name, .int .i64 a0_c.Kind, v1, v3, v5, .int .i64 a0_c.Leak, .int .i64 a0_c.Energy]) rfl ag_32 rfl (Box.cells hb10) cn_32) ?_
  obtain ⟨r14, hr15, hF⟩ := bsome hF
  refine TL.eff rfl rfl (eff_call rfl gf_39 rfl (W_impl_Cell_output hr15 ((slRep.old ha2 he12 (Nat.le_refl _)).wide (Nat.le_refl _) (he12).size) ((slRep.old ha4 he12 (Nat.le_refl _)).wide (Nat.le_refl _) (he12).size) ((slRep.old ha6 he12 (Nat.le_refl _)).wide (Nat.le_refl _) (he12).size))) ?_
  rintro _ w16 ⟨rfl, hx17⟩
  have he18 : Ext w w16 := Ext.trans he12 hx17
  have hz19 := (hx17).size
  refine TL.yld rfl rfl (yld_sub rfl rfl rfl) ?_
  obtain ⟨r20, hr21, hF⟩ := bsome hF
  refine TL.eff rfl rfl (eff_call rfl gf_37 rfl (W_impl_within hr21)) ?_
  rintro _ w22 ⟨rfl, hx23⟩
  have he24 : Ext w w22 := Ext.trans he18 hx23
  have hz25 := (hx23).size
  refine TL.yld rfl rfl (yld_assign rfl rfl) ?_
  refine TL.done ?_
  refine NX.seq ?_
  refine WC.ret' ?_
  obtain rfl := Option.some.inj hF
  exact NX.end (rs := [.tmp 4]) (vs := [.bool r20]) rfl ⟨rfl, trivial⟩ ⟨_, rfl, rfl, he24⟩

-- loop.example/g00861/impl.isCheck
def F_impl_isCheck (n : Nat) (a0_kind : Int) : Option Bool := (some ((((a0_kind == 4)) || ((a0_kind == 5)))))
set_option maxHeartbeats 40000000 in
theorem W_impl_isCheck {n : Nat} {a0_kind : Int} {r : Bool} {w : World} (hF : F_impl_isCheck n a0_kind = some r) :
    Calls Tryz.prog 68 [.int .i64 a0_kind].toArray w (Ret fun u w2 => u = .bool r ∧ Ext w w2) := by
  refine calls_of Tryz.func68 rfl Tryz.ntmps68 ?_
  have he0 : Ext w w := Ext.refl w
  unfold F_impl_isCheck at hF
  refine WC.seq ?_
  refine WC.region ?_
  refine TL.yld rfl rfl (yld_assign rfl rfl) ?_
  refine TL.done ?_
  refine NX.seq ?_
  refine WC.seq ?_
  refine WC.region ?_
  refine TL.yld rfl rfl (yld_move rfl rfl) ?_
  refine TL.yld rfl rfl (yld_eql rfl rfl rfl) ?_
  refine TL.yld rfl rfl (yld_move rfl rfl) ?_
  refine TL.cut 3 [(8, .bool ((((a0_kind == 4)) || ((a0_kind == 5)))))] (fun w' => Ext w w') ?_ ?_
  · rcases Bool.eq_false_or_eq_true ((a0_kind == 4)) with hg1 | hg1
    ·
      refine TL.gnu (j := 2) (t := 5) rfl rfl rfl hg1 rfl ?_
      refine TL.gnu (j := 2) (t := 5) rfl rfl rfl hg1 rfl ?_
      refine TL.yld rfl rfl (yld_or_t (b2 := (a0_kind == 5)) rfl rfl hg1 rfl) ?_
      exact TL.nil fun a h => ⟨h.weaken ⟨rfl, trivial⟩, Ext.refl _⟩
    ·
      refine TL.gy (j := 2) (t := 5) rfl rfl rfl hg1 rfl (yld_move rfl rfl) ?_
      refine TL.gy (j := 2) (t := 5) rfl rfl rfl hg1 rfl (yld_eql rfl rfl rfl) ?_
      refine TL.yld rfl rfl (yld_or_f rfl rfl hg1 rfl) ?_
      exact TL.nil fun a h => ⟨h.weaken ⟨rfl, trivial⟩, Ext.refl _⟩
  intro w2 hx3
  have he4 : Ext w w2 := Ext.trans he0 hx3
  have hz5 := (hx3).size
  refine TL.yld rfl rfl (yld_assign rfl rfl) ?_
  refine TL.done ?_
  refine NX.seq ?_
  refine WC.ret' ?_
  obtain rfl := Option.some.inj hF
  exact NX.end (rs := [.tmp 2]) (vs := [.bool ((((a0_kind == 4)) || ((a0_kind == 5))))]) rfl ⟨rfl, trivial⟩ ⟨_, rfl, rfl, he4⟩

-- loop.example/g00861/impl.areWithin$1
def F_impl_areWithin_1 (n : Nat) (a0_n : Int) (a1_c : Int) (a2_c : Int) : Option Bool := (Option.bind (F_impl_within n a0_n a1_c a2_c) fun r3 => (some (!r3)))
set_option maxHeartbeats 40000000 in
theorem W_impl_areWithin_1 {n : Nat} {a0_n : Int} {a1_c : Int} {a2_c : Int} {r : Bool} {w : World} {b1_ : Nat} {b2_ : Nat} (hF : F_impl_areWithin_1 n a0_n a1_c a2_c = some r) (hb1 : Box w b1_ [.int .i64 a1_c] 2) (hb2 : Box w b2_ [.int .i64 a2_c] 2) :
    Calls Tryz.prog 73 [.int .i64 a0_n, .pointer (some ⟨b1_, 0, none⟩), .pointer (some ⟨b2_, 0, none⟩)].toArray w (Ret fun u w2 => u = .bool r ∧ Ext w w2) := by
  refine calls_of Tryz.func73 rfl Tryz.ntmps73 ?_
  have he0 : Ext w w := Ext.refl w
  have := Box.lt hb1
  have := Box.lt hb2
  unfold F_impl_areWithin_1 at hF
  refine WC.seq ?_
  refine WC.region ?_
  refine TL.yld rfl rfl (yld_assign rfl rfl) ?_
  refine TL.done ?_
  refine NX.seq ?_
  refine WC.seq ?_
  refine WC.region ?_
  refine TL.yld rfl rfl (yld_move rfl rfl) ?_
  refine TL.yld rfl rfl (yld_load1 0 rfl ag_2 rfl (Box.cells hb1) rfl rfl) ?_
  refine TL.yld rfl rfl (yld_load1 0 rfl ag_2 rfl (Box.cells hb2) rfl rfl) ?_
  obtain ⟨r3, hr4, hF⟩ := bsome hF
  refine TL.eff rfl rfl (eff_call rfl gf_37 rfl (W_impl_within hr4)) ?_
  rintro _ w5 ⟨rfl, hx6⟩
  have he7 : Ext w w5 := Ext.trans he0 hx6
  have hz8 := (hx6).size
  refine TL.yld rfl rfl (yld_not rfl rfl) ?_
  refine TL.yld rfl rfl (yld_assign rfl rfl) ?_
  refine TL.done ?_
  refine NX.seq ?_
  refine WC.ret' ?_
  obtain rfl := Option.some.inj hF
  exact NX.end (rs := [.tmp 4]) (vs := [.bool (!r3)]) rfl ⟨rfl, trivial⟩ ⟨_, rfl, rfl, he7⟩

-- slices.IndexFunc[[]int64,int64]
def F_slices_IndexFunc_int64_int64_on_impl_areWithin_1_L1 (n : Nat) (a0_s : List Int) (a1c0_c : Int) (a1c1_c : Int) (k0 : Int → Option Int) : Nat → Int → Option Int
  | 0 => fun _ => none
  | m + 1 => fun i7 => (bif decide (i7 < (a0_s.length : Int)) then (Option.bind (getI a0_s i7) fun x11 => (Option.bind (F_impl_areWithin_1 n x11 a1c0_c a1c1_c) fun r19 => (bif r19 then (some i7) else (F_slices_IndexFunc_int64_int64_on_impl_areWithin_1_L1 n a0_s a1c0_c a1c1_c k0 m (IntKind.wrap IntKind.i64 (i7 + 1)))))) else (k0 i7))
theorem F_slices_IndexFunc_int64_int64_on_impl_areWithin_1_L1_z (n : Nat) (a0_s : List Int) (a1c0_c : Int) (a1c1_c : Int) (k0 : Int → Option Int) (i7 : Int) : F_slices_IndexFunc_int64_int64_on_impl_areWithin_1_L1 n a0_s a1c0_c a1c1_c k0 0 i7 = none := rfl
theorem F_slices_IndexFunc_int64_int64_on_impl_areWithin_1_L1_s (m : Nat) (n : Nat) (a0_s : List Int) (a1c0_c : Int) (a1c1_c : Int) (k0 : Int → Option Int) (i7 : Int) : F_slices_IndexFunc_int64_int64_on_impl_areWithin_1_L1 n a0_s a1c0_c a1c1_c k0 (m + 1) i7 = (bif decide (i7 < (a0_s.length : Int)) then (Option.bind (getI a0_s i7) fun x11 => (Option.bind (F_impl_areWithin_1 n x11 a1c0_c a1c1_c) fun r19 => (bif r19 then (some i7) else (F_slices_IndexFunc_int64_int64_on_impl_areWithin_1_L1 n a0_s a1c0_c a1c1_c k0 m (IntKind.wrap IntKind.i64 (i7 + 1)))))) else (k0 i7)) := rfl

def F_slices_IndexFunc_int64_int64_on_impl_areWithin_1 (n : Nat) (a0_s : List Int) (a1c0_c : Int) (a1c1_c : Int) : Option Int := (F_slices_IndexFunc_int64_int64_on_impl_areWithin_1_L1 n a0_s a1c0_c a1c1_c (fun i7 => (some (-1))) n 0)
set_option maxHeartbeats 40000000 in
theorem W_slices_IndexFunc_int64_int64_on_impl_areWithin_1 {n : Nat} {a0_s : List Int} {a1c0_c : Int} {a1c1_c : Int} {r : Int} {w : World} {v1 : Value} {b1c0_ : Nat} {b1c1_ : Nat} (hF : F_slices_IndexFunc_int64_int64_on_impl_areWithin_1 n a0_s a1c0_c a1c1_c = some r) (ha2 : slRep (cInt .i64) w (Iv 0 w.heap.size) a0_s v1) (hb3 : Box w b1c0_ [.int .i64 a1c0_c] 2) (hb4 : Box w b1c1_ [.int .i64 a1c1_c] 2) :
    Calls Tryz.prog 89 [v1, .func (.func 73) #[] [.pointer (some ⟨b1c0_, 0, none⟩), .pointer (some ⟨b1c1_, 0, none⟩)].toArray].toArray w (Ret fun u w2 => u = .int .i64 r ∧ Ext w w2) := by
  refine calls_of Tryz.func89 rfl Tryz.ntmps89 ?_
  have he0 : Ext w w := Ext.refl w
  have := Box.lt hb3
  have := Box.lt hb4
  unfold F_slices_IndexFunc_int64_int64_on_impl_areWithin_1 at hF
  refine WC.seq ?_
  refine WC.region ?_
  refine TL.yld rfl rfl (yld_assign rfl rfl) ?_
  refine TL.done ?_
  refine NX.seq ?_
  refine WC.seq ?_
  refine WC.seq ?_
  refine WC.region ?_
  refine TL.yld rfl rfl (yld_move rfl rfl) ?_
  refine TL.yld rfl rfl (ye_len (c := (cInt .i64)) rfl Tryz.underlying24 rfl (slRep.old ha2 he0 (Nat.le_refl _))) ?_
  refine TL.yld rfl rfl (yld_move rfl rfl) ?_
  refine TL.done ?_
  refine NX.seq ?_
  refine WC.block ?_
  refine WC.loop (fun m10 a wl => ∃ (i7 : Int), Kn 19 [(0, v1), (1, .func (.func 73) #[] [.pointer (some ⟨b1c0_, 0, none⟩), .pointer (some ⟨b1c1_, 0, none⟩)].toArray), (7, .int .i64 ((a0_s.length : Int))), (8, .int .i64 i7)] a ∧ Ext w wl ∧ w.heap.size ≤ wl.heap.size ∧ Box wl b1c0_ [.int .i64 a1c0_c] 2 ∧ Box wl b1c1_ [.int .i64 a1c1_c] 2 ∧ F_slices_IndexFunc_int64_int64_on_impl_areWithin_1_L1 n a0_s a1c0_c a1c1_c (fun i7 => (some (-1))) m10 i7 = some r) n ?_ ?_
  · intro a hK; exact ⟨0, hK.weaken ⟨rfl, rfl, rfl, rfl, trivial⟩, he0, Nat.le_refl _, hb3, hb4, hF⟩
  · rintro m10 a w5 ⟨i7, hK, he6, hz11, hb8, hb9, hF⟩
    revert hK; revert a; refine (?_ : WC _ _ _ _ _ _)
    cases m10 with
    | zero => rw [F_slices_IndexFunc_int64_int64_on_impl_areWithin_1_L1_z] at hF; cases hF
    | succ m10 =>
      rw [F_slices_IndexFunc_int64_int64_on_impl_areWithin_1_L1_s] at hF
      refine WC.seq ?_
      refine WC.region ?_
      refine TL.yld rfl rfl (yld_lss rfl rfl rfl) ?_
      refine TL.done ?_
      refine NX.seq ?_
      refine WC.seq ?_
      refine WC.cond rfl ?_ ?_
      · intro hc12
        replace hF := bif_t hc12 hF
        refine WC.skip' ?_
        refine NX.seq ?_
        refine WC.seq ?_
        refine WC.block ?_
        refine WC.seq ?_
        refine WC.region ?_
        refine TL.yld rfl rfl (yld_move rfl rfl) ?_
        refine TL.yld rfl rfl (yld_assign rfl rfl) ?_
        refine TL.done ?_
        refine NX.seq ?_
        refine WC.seq ?_
        refine WC.region ?_
        refine TL.yld rfl rfl (yld_move rfl rfl) ?_
        refine TL.yld rfl rfl (yld_move rfl rfl) ?_
        refine TL.yld rfl rfl (yld_move rfl rfl) ?_
        obtain ⟨x13, hy14, hF⟩ := bsome hF
        refine TL.ye rfl rfl (ye_index (c := (cInt .i64)) rfl Tryz.underlying24 cn_2 rfl rfl (slRep.old ha2 he6 (Nat.le_refl _)) hy14) ?_
        rintro _ ⟨b15, o16, us17, rfl, hib20, hr18, hcl19⟩
        have hib20 : 0 ≤ b15 ∧ b15 < w.heap.size := ⟨hib20.1, by have := hib20.2; omega⟩
        obtain rfl := hr18
        refine TL.yld rfl rfl (yld_load1 0 rfl ag_2 rfl hcl19 rfl rfl) ?_
        obtain ⟨r21, hr22, hF⟩ := bsome hF
        refine TL.eff rfl rfl (eff_callv rfl gf_73 rfl rfl (W_impl_areWithin_1 hr22 hb8 hb9)) ?_
        rintro _ w23 ⟨rfl, hx24⟩
        have he25 : Ext w w23 := Ext.trans he6 hx24
        have hb8 := Box.ext hb8 hx24
        have hb9 := Box.ext hb9 hx24
        have hz26 := (hx24).size
        refine TL.done ?_
        refine NX.seq ?_
        refine WC.cond rfl ?_ ?_
        · intro hc27
          replace hF := bif_t hc27 hF
          refine WC.seq ?_
          refine WC.region ?_
          refine TL.yld rfl rfl (yld_move rfl rfl) ?_
          refine TL.yld rfl rfl (yld_assign rfl rfl) ?_
          refine TL.done ?_
          refine NX.seq ?_
          refine WC.ret' ?_
          refine NX.blk_r ?_
          refine NX.then_r ?_
          refine NX.then_r ?_
          refine NX.blk_r ?_
          refine NX.then_r ?_
          obtain rfl := Option.some.inj hF
          exact NX.end (rs := [.tmp 4]) (vs := [.int .i64 i7]) rfl ⟨rfl, trivial⟩ ⟨_, rfl, rfl, he25⟩
        · intro hc28
          replace hF := bif_f hc28 hF
          refine WC.skip' ?_
          refine NX.blk_n ?_
          refine NX.seq ?_
          refine WC.region ?_
          refine TL.yld rfl rfl (yld_add rfl rfl rfl) ?_
          refine TL.yld rfl rfl (yld_move rfl rfl) ?_
          refine TL.done ?_
          refine NX.then_n ?_
          intro a hK; exact ⟨m10, Nat.lt_succ_self m10, (IntKind.wrap IntKind.i64 (i7 + 1)), hK.weaken ⟨rfl, rfl, rfl, rfl, trivial⟩, he25, (by omega), hb8, hb9, hF⟩
      · intro hc29
        replace hF := bif_f hc29 hF
        refine WC.exit' ?_
        refine NX.then_e ?_
        refine NX.then_e ?_
        refine NX.blk_hit ?_
        refine NX.seq ?_
        refine WC.seq ?_
        refine WC.region ?_
        refine TL.yld rfl rfl (yld_assign rfl rfl) ?_
        refine TL.done ?_
        refine NX.seq ?_
        refine WC.ret' ?_
        obtain rfl := Option.some.inj hF
        exact NX.end (rs := [.tmp 4]) (vs := [.int .i64 (-1)]) rfl ⟨rfl, trivial⟩ ⟨_, rfl, rfl, he6⟩

-- slices.ContainsFunc[[]int64,int64]
def F_slices_ContainsFunc_int64_int64_on_impl_areWithin_1 (n : Nat) (a0_s : List Int) (a1c0_c : Int) (a1c1_c : Int) : Option Bool := (Option.bind (F_slices_IndexFunc_int64_int64_on_impl_areWithin_1 n a0_s a1c0_c a1c1_c) fun r5 => (some (decide (r5 ≥ 0))))
set_option maxHeartbeats 40000000 in
theorem W_slices_ContainsFunc_int64_int64_on_impl_areWithin_1 {n : Nat} {a0_s : List Int} {a1c0_c : Int} {a1c1_c : Int} {r : Bool} {w : World} {v1 : Value} {b1c0_ : Nat} {b1c1_ : Nat} (hF : F_slices_ContainsFunc_int64_int64_on_impl_areWithin_1 n a0_s a1c0_c a1c1_c = some r) (ha2 : slRep (cInt .i64) w (Iv 0 w.heap.size) a0_s v1) (hb3 : Box w b1c0_ [.int .i64 a1c0_c] 2) (hb4 : Box w b1c1_ [.int .i64 a1c1_c] 2) :
    Calls Tryz.prog 72 [v1, .func (.func 73) #[] [.pointer (some ⟨b1c0_, 0, none⟩), .pointer (some ⟨b1c1_, 0, none⟩)].toArray].toArray w (Ret fun u w2 => u = .bool r ∧ Ext w w2) := by
  refine calls_of Tryz.func72 rfl Tryz.ntmps72 ?_
  have he0 : Ext w w := Ext.refl w
  have := Box.lt hb3
  have := Box.lt hb4
  unfold F_slices_ContainsFunc_int64_int64_on_impl_areWithin_1 at hF
  refine WC.seq ?_
  refine WC.region ?_
  refine TL.yld rfl rfl (yld_assign rfl rfl) ?_
  refine TL.done ?_
  refine NX.seq ?_
  refine WC.seq ?_
  refine WC.region ?_
  refine TL.yld rfl rfl (yld_move rfl rfl) ?_
  refine TL.yld rfl rfl (yld_move rfl rfl) ?_
  obtain ⟨r5, hr6, hF⟩ := bsome hF
  refine TL.eff rfl rfl (eff_call rfl gf_89 rfl (W_slices_IndexFunc_int64_int64_on_impl_areWithin_1 hr6 ((slRep.old ha2 he0 (Nat.le_refl _)).wide (Nat.le_refl _) (he0).size) hb3 hb4)) ?_
  rintro _ w7 ⟨rfl, hx8⟩
  have he9 : Ext w w7 := Ext.trans he0 hx8
  have hz10 := (hx8).size
  refine TL.yld rfl rfl (yld_geq rfl rfl rfl) ?_
  refine TL.yld rfl rfl (yld_assign rfl rfl) ?_
  refine TL.done ?_
  refine NX.seq ?_
  refine WC.ret' ?_
  obtain rfl := Option.some.inj hF
  exact NX.end (rs := [.tmp 4]) (vs := [.bool (decide (r5 ≥ 0))]) rfl ⟨rfl, trivial⟩ ⟨_, rfl, rfl, he9⟩

-- loop.example/g00861/impl.areWithin
def F_impl_areWithin (n : Nat) (a0_list : List Int) (a1_low : Int) (a2_high : Int) : Option Bool := (Option.bind (F_slices_ContainsFunc_int64_int64_on_impl_areWithin_1 n a0_list a1_low a2_high) fun r17 => (some (!r17)))
set_option maxHeartbeats 40000000 in
theorem W_impl_areWithin {n : Nat} {a0_list : List Int} {a1_low : Int} {a2_high : Int} {r : Bool} {w : World} {v1 : Value} (hF : F_impl_areWithin n a0_list a1_low a2_high = some r) (ha2 : slRep (cInt .i64) w (Iv 0 w.heap.size) a0_list v1) :
    Calls Tryz.prog 53 [v1, .int .i64 a1_low, .int .i64 a2_high].toArray w (Ret fun u w2 => u = .bool r ∧ Ext w w2) := by
  refine calls_of Tryz.func53 rfl Tryz.ntmps53 ?_
  have he0 : Ext w w := Ext.refl w
  unfold F_impl_areWithin at hF
  refine WC.seq ?_
  refine WC.region ?_
  refine TL.eff rfl rfl (eff_box rfl rfl) ?_
  rintro _ w4 ⟨b3, rfl, hn5⟩
  obtain ⟨hn5e, hn5s, hn5x, hb6⟩ := hn5
  have hb6 : Box w4 b3 [.int .i64 a1_low] 2 := hb6
  have he8 : Ext w w4 := Ext.trans he0 hn5x
  have hz9 := (hn5x).size
  have hlo7 : w.heap.size ≤ b3 := by rw [hn5e]; exact (he0).size
  refine TL.eff rfl rfl (eff_box rfl rfl) ?_
  rintro _ w11 ⟨b10, rfl, hn12⟩
  obtain ⟨hn12e, hn12s, hn12x, hb13⟩ := hn12
  have hb13 : Box w11 b10 [.int .i64 a2_high] 2 := hb13
  have he15 : Ext w w11 := Ext.trans he8 hn12x
  have hb6 := Box.ext hb6 hn12x
  have hz16 := (hn12x).size
  have hlo14 : w.heap.size ≤ b10 := by rw [hn12e]; exact (he8).size
  refine TL.yld rfl rfl (yld_assign rfl rfl) ?_
  refine TL.done ?_
  refine NX.seq ?_
  refine WC.seq ?_
  refine WC.region ?_
  refine TL.yld rfl rfl (yld_move rfl rfl) ?_
  refine TL.yld rfl rfl (yld_makeFunc rfl rfl rfl) ?_
  obtain ⟨r17, hr18, hF⟩ := bsome hF
  refine TL.eff rfl rfl (eff_call rfl gf_72 rfl (W_slices_ContainsFunc_int64_int64_on_impl_areWithin_1 hr18 ((slRep.old ha2 he15 (Nat.le_refl _)).wide (Nat.le_refl _) (he15).size) hb6 hb13)) ?_
  rintro _ w19 ⟨rfl, hx20⟩
  have he21 : Ext w w19 := Ext.trans he15 hx20
  have hz22 := (hx20).size
  refine TL.yld rfl rfl (yld_not rfl rfl) ?_
  refine TL.yld rfl rfl (yld_assign rfl rfl) ?_
  refine TL.done ?_
  refine NX.seq ?_
  refine WC.ret' ?_
  obtain rfl := Option.some.inj hF
  exact NX.end (rs := [.tmp 6]) (vs := [.bool (!r17)]) rfl ⟨rfl, trivial⟩ ⟨_, rfl, rfl, he21⟩

-- loop.example/g00861/impl.length[int64]
def F_impl_length_int64 (n : Nat) (a0_list : List Int) : Option Int := (some ((a0_list.length : Int)))
set_option maxHeartbeats 40000000 in
theorem W_impl_length_int64 {n : Nat} {a0_list : List Int} {r : Int} {w : World} {v1 : Value} (hF : F_impl_length_int64 n a0_list = some r) (ha2 : slRep (cInt .i64) w (Iv 0 w.heap.size) a0_list v1) :
    Calls Tryz.prog 99 [v1].toArray w (Ret fun u w2 => u = .int .i64 r ∧ Ext w w2) := by
  refine calls_of Tryz.func99 rfl Tryz.ntmps99 ?_
  have he0 : Ext w w := Ext.refl w
  unfold F_impl_length_int64 at hF
  refine WC.seq ?_
  refine WC.region ?_
  refine TL.yld rfl rfl (yld_assign rfl rfl) ?_
  refine TL.done ?_
  refine NX.seq ?_
  refine WC.seq ?_
  refine WC.region ?_
  refine TL.yld rfl rfl (yld_move rfl rfl) ?_
  refine TL.yld rfl rfl (ye_len (c := (cInt .i64)) rfl Tryz.underlying24 rfl (slRep.old ha2 he0 (Nat.le_refl _))) ?_
  refine TL.yld rfl rfl (yld_assign rfl rfl) ?_
  refine TL.done ?_
  refine NX.seq ?_
  refine WC.ret' ?_
  obtain rfl := Option.some.inj hF
  exact NX.end (rs := [.tmp 2]) (vs := [.int .i64 ((a0_list.length : Int))]) rfl ⟨rfl, trivial⟩ ⟨_, rfl, rfl, he0⟩

-- loop.example/g00861/impl.isIncreasing
def F_impl_isIncreasing_L1 (a0_list : List Int) (k0 : Int → Option Bool) : Nat → Int → Option Bool
  | 0 => fun _ => none
  | m + 1 => fun i5 => (bif decide (i5 < (a0_list.length : Int)) then (Option.bind (getI a0_list (IntKind.wrap IntKind.i64 (i5 - 1))) fun x7 => (Option.bind (getI a0_list i5) fun x15 => (bif decide (x7 ≥ x15) then (some false) else (F_impl_isIncreasing_L1 a0_list k0 m (IntKind.wrap IntKind.i64 (i5 + 1)))))) else (k0 i5))
theorem F_impl_isIncreasing_L1_z (a0_list : List Int) (k0 : Int → Option Bool) (i5 : Int) : F_impl_isIncreasing_L1 a0_list k0 0 i5 = none := rfl
theorem F_impl_isIncreasing_L1_s (m : Nat) (a0_list : List Int) (k0 : Int → Option Bool) (i5 : Int) : F_impl_isIncreasing_L1 a0_list k0 (m + 1) i5 = (bif decide (i5 < (a0_list.length : Int)) then (Option.bind (getI a0_list (IntKind.wrap IntKind.i64 (i5 - 1))) fun x7 => (Option.bind (getI a0_list i5) fun x15 => (bif decide (x7 ≥ x15) then (some false) else (F_impl_isIncreasing_L1 a0_list k0 m (IntKind.wrap IntKind.i64 (i5 + 1)))))) else (k0 i5)) := rfl

def F_impl_isIncreasing (n : Nat) (a0_list : List Int) : Option Bool := (F_impl_isIncreasing_L1 a0_list (fun i5 => (some true)) n 1)
set_option maxHeartbeats 40000000 in
theorem W_impl_isIncreasing {n : Nat} {a0_list : List Int} {r : Bool} {w : World} {v1 : Value} (hF : F_impl_isIncreasing n a0_list = some r) (ha2 : slRep (cInt .i64) w (Iv 0 w.heap.size) a0_list v1) :
    Calls Tryz.prog 100 [v1].toArray w (Ret fun u w2 => u = .bool r ∧ Ext w w2) := by
  refine calls_of Tryz.func100 rfl Tryz.ntmps100 ?_
  have he0 : Ext w w := Ext.refl w
  unfold F_impl_isIncreasing at hF
  refine WC.seq ?_
  refine WC.region ?_
  refine TL.yld rfl rfl (yld_assign rfl rfl) ?_
  refine TL.done ?_
  refine NX.seq ?_
  refine WC.seq ?_
  refine WC.seq ?_
  refine WC.region ?_
  refine TL.yld rfl rfl (yld_assign rfl rfl) ?_
  refine TL.done ?_
  refine NX.seq ?_
  refine WC.block ?_
  refine WC.loop (fun m6 a wl => ∃ (i5 : Int), Kn 20 [(0, v1), (3, .int .i64 i5)] a ∧ Ext w wl ∧ w.heap.size ≤ wl.heap.size ∧ F_impl_isIncreasing_L1 a0_list (fun i5 => (some true)) m6 i5 = some r) n ?_ ?_
  · intro a hK; exact ⟨1, hK.weaken ⟨rfl, rfl, trivial⟩, he0, Nat.le_refl _, hF⟩
  · rintro m6 a w3 ⟨i5, hK, he4, hz7, hF⟩
    revert hK; revert a; refine (?_ : WC _ _ _ _ _ _)
    cases m6 with
    | zero => rw [F_impl_isIncreasing_L1_z] at hF; cases hF
    | succ m6 =>
      rw [F_impl_isIncreasing_L1_s] at hF
      refine WC.seq ?_
      refine WC.seq ?_
      refine WC.region ?_
      refine TL.yld rfl rfl (yld_move rfl rfl) ?_
      refine TL.yld rfl rfl (yld_move rfl rfl) ?_
      refine TL.yld rfl rfl (ye_len (c := (cInt .i64)) rfl Tryz.underlying24 rfl (slRep.old ha2 he4 (Nat.le_refl _))) ?_
      refine TL.yld rfl rfl (yld_lss rfl rfl rfl) ?_
      refine TL.done ?_
      refine NX.seq ?_
      refine WC.cond rfl ?_ ?_
      · intro hc8
        replace hF := bif_t hc8 hF
        refine WC.skip' ?_
        refine NX.seq ?_
        refine WC.seq ?_
        refine WC.block ?_
        refine WC.seq ?_
        refine WC.quiet Tryz.hm (by kernel_rfl) ?_
        refine QL.yld rfl rfl (Yld.qui (yld_move rfl rfl)) ?_
        refine QL.yld rfl rfl (Yld.qui (yld_move rfl rfl)) ?_
        refine QL.yld rfl rfl (Yld.qui (yld_sub rfl rfl rfl)) ?_
        obtain ⟨x9, hy10, hF⟩ := bsome hF
        refine QL.ye rfl rfl (ye_index (c := (cInt .i64)) rfl Tryz.underlying24 cn_2 rfl rfl (slRep.old ha2 he4 (Nat.le_refl _)) hy10) ?_
        rintro _ ⟨b11, o12, us13, rfl, hib16, hr14, hcl15⟩
        have hib16 : 0 ≤ b11 ∧ b11 < w.heap.size := ⟨hib16.1, by have := hib16.2; omega⟩
        obtain rfl := hr14
        refine QL.yld rfl rfl (Yld.qui (yld_load1 0 rfl ag_2 rfl hcl15 rfl rfl)) ?_
        refine QL.yld rfl rfl (Yld.qui (yld_move rfl rfl)) ?_
        refine QL.yld rfl rfl (Yld.qui (yld_move rfl rfl)) ?_
        obtain ⟨x17, hy18, hF⟩ := bsome hF
        refine QL.ye rfl rfl (ye_index (c := (cInt .i64)) rfl Tryz.underlying24 cn_2 rfl rfl (slRep.old ha2 he4 (Nat.le_refl _)) hy18) ?_
        rintro _ ⟨b19, o20, us21, rfl, hib24, hr22, hcl23⟩
        have hib24 : 0 ≤ b19 ∧ b19 < w.heap.size := ⟨hib24.1, by have := hib24.2; omega⟩
        obtain rfl := hr22
        refine QL.yld rfl rfl (Yld.qui (yld_load1 0 rfl ag_2 rfl hcl23 rfl rfl)) ?_
        refine QL.yld rfl rfl (Yld.qui (yld_geq rfl rfl rfl)) ?_
        refine QL.done fun w25 hx26 => ?_
        have he27 : Ext w w25 := Ext.trans he4 hx26
        have hz28 := (hx26).size
        refine NX.seq ?_
        refine WC.cond rfl ?_ ?_
        · intro hc29
          replace hF := bif_t hc29 hF
          refine WC.seq ?_
          refine WC.region ?_
          refine TL.yld rfl rfl (yld_assign rfl rfl) ?_
          refine TL.done ?_
          refine NX.seq ?_
          refine WC.ret' ?_
          refine NX.blk_r ?_
          refine NX.then_r ?_
          refine NX.then_r ?_
          refine NX.blk_r ?_
          refine NX.then_r ?_
          obtain rfl := Option.some.inj hF
          exact NX.end (rs := [.tmp 2]) (vs := [.bool false]) rfl ⟨rfl, trivial⟩ ⟨_, rfl, rfl, he27⟩
        · intro hc30
          replace hF := bif_f hc30 hF
          refine WC.skip' ?_
          refine NX.blk_n ?_
          refine NX.seq ?_
          refine WC.region ?_
          refine TL.yld rfl rfl (yld_move rfl rfl) ?_
          refine TL.yld rfl rfl (yld_add rfl rfl rfl) ?_
          refine TL.yld rfl rfl (yld_assign rfl rfl) ?_
          refine TL.done ?_
          refine NX.then_n ?_
          intro a hK; exact ⟨m6, Nat.lt_succ_self m6, (IntKind.wrap IntKind.i64 (i5 + 1)), hK.weaken ⟨rfl, rfl, trivial⟩, he27, (by omega), hF⟩
      · intro hc31
        replace hF := bif_f hc31 hF
        refine WC.exit' ?_
        refine NX.then_e ?_
        refine NX.then_e ?_
        refine NX.blk_hit ?_
        refine NX.seq ?_
        refine WC.seq ?_
        refine WC.region ?_
        refine TL.yld rfl rfl (yld_assign rfl rfl) ?_
        refine TL.done ?_
        refine NX.seq ?_
        refine WC.ret' ?_
        obtain rfl := Option.some.inj hF
        exact NX.end (rs := [.tmp 2]) (vs := [.bool true]) rfl ⟨rfl, trivial⟩ ⟨_, rfl, rfl, he4⟩

-- loop.example/g00861/impl.isAxis
def F_impl_isAxis (n : Nat) (a0_list : List Int) : Option Bool := (Option.bind (F_impl_length_int64 n a0_list) fun r3 => (Option.bind (F_impl_within n r3 1 4) fun r9 => (Option.bind (bif r9 then (Option.bind (F_impl_areWithin n a0_list 0 100000) fun r15 => (some r15)) else (some false)) fun c15 => (Option.bind (bif c15 then (Option.bind (F_impl_isIncreasing n a0_list) fun r28 => (some r28)) else (some false)) fun c28 => (some c28)))))
set_option maxHeartbeats 40000000 in
theorem W_impl_isAxis {n : Nat} {a0_list : List Int} {r : Bool} {w : World} {v1 : Value} (hF : F_impl_isAxis n a0_list = some r) (ha2 : slRep (cInt .i64) w (Iv 0 w.heap.size) a0_list v1) :
    Calls Tryz.prog 95 [v1].toArray w (Ret fun u w2 => u = .bool r ∧ Ext w w2) := by
  refine calls_of Tryz.func95 rfl Tryz.ntmps95 ?_
  have he0 : Ext w w := Ext.refl w
  unfold F_impl_isAxis at hF
  refine WC.seq ?_
  refine WC.region ?_
  refine TL.yld rfl rfl (yld_assign rfl rfl) ?_
  refine TL.done ?_
  refine NX.seq ?_
  refine WC.seq ?_
  refine WC.region ?_
  refine TL.yld rfl rfl (yld_move rfl rfl) ?_
  obtain ⟨r3, hr4, hF⟩ := bsome hF
  refine TL.eff rfl rfl (eff_call rfl gf_99 rfl (W_impl_length_int64 hr4 ((slRep.old ha2 he0 (Nat.le_refl _)).wide (Nat.le_refl _) (he0).size))) ?_
  rintro _ w5 ⟨rfl, hx6⟩
  have he7 : Ext w w5 := Ext.trans he0 hx6
  have hz8 := (hx6).size
  obtain ⟨r9, hr10, hF⟩ := bsome hF
  refine TL.eff rfl rfl (eff_call rfl gf_37 rfl (W_impl_within hr10)) ?_
  rintro _ w11 ⟨rfl, hx12⟩
  have he13 : Ext w w11 := Ext.trans he7 hx12
  have hz14 := (hx12).size
  refine TL.yld rfl rfl (yld_move rfl rfl) ?_
  obtain ⟨c15, hb16, hF⟩ := bsome hF
  refine TL.cut 3 [(0, v1), (9, .bool c15)] (fun w' => Ext w11 w') ?_ ?_
  · rcases Bool.eq_false_or_eq_true r9 with hg17 | hg17
    ·
      rw [hg17] at hb16; simp only [cond_true, cond_false] at hb16
      replace hF := hb16
      refine TL.gy (j := 3) (t := 6) rfl rfl rfl hg17 rfl (yld_move rfl rfl) ?_
      obtain ⟨r18, hr19, hF⟩ := bsome hF
      refine TL.ge (j := 3) (t := 6) rfl rfl rfl hg17 rfl (eff_call rfl gf_53 rfl (W_impl_areWithin hr19 ((slRep.old ha2 he13 (Nat.le_refl _)).wide (Nat.le_refl _) (he13).size))) ?_
      rintro _ w20 ⟨rfl, hx21⟩
      have hz23 := (hx21).size
      obtain rfl := Option.some.inj hF
      refine TL.yld rfl rfl (yld_pick_t rfl rfl hg17 rfl) ?_
      exact TL.nil fun a h => ⟨h.weaken ⟨rfl, rfl, trivial⟩, hx21⟩
    ·
      rw [hg17] at hb16; simp only [cond_true, cond_false] at hb16
      refine TL.gnu (j := 3) (t := 6) rfl rfl rfl hg17 rfl ?_
      refine TL.gnu (j := 3) (t := 6) rfl rfl rfl hg17 rfl ?_
      obtain rfl := Option.some.inj hb16
      refine TL.yld rfl rfl (yld_pick_f rfl rfl hg17 rfl) ?_
      exact TL.nil fun a h => ⟨h.weaken ⟨rfl, rfl, trivial⟩, Ext.refl _⟩
  intro w24 hx25
  have he26 : Ext w w24 := Ext.trans he13 hx25
  have hz27 := (hx25).size
  refine TL.yld rfl rfl (yld_move rfl rfl) ?_
  obtain ⟨c28, hb29, hF⟩ := bsome hF
  refine TL.cut 3 [(13, .bool c28)] (fun w' => Ext w24 w') ?_ ?_
  · rcases Bool.eq_false_or_eq_true c15 with hg30 | hg30
    ·
      rw [hg30] at hb29; simp only [cond_true, cond_false] at hb29
      replace hF := hb29
      refine TL.gy (j := 7) (t := 10) rfl rfl rfl hg30 rfl (yld_move rfl rfl) ?_
      obtain ⟨r31, hr32, hF⟩ := bsome hF
      refine TL.ge (j := 7) (t := 10) rfl rfl rfl hg30 rfl (eff_call rfl gf_100 rfl (W_impl_isIncreasing hr32 ((slRep.old ha2 he26 (Nat.le_refl _)).wide (Nat.le_refl _) (he26).size))) ?_
      rintro _ w33 ⟨rfl, hx34⟩
      have hz36 := (hx34).size
      obtain rfl := Option.some.inj hF
      refine TL.yld rfl rfl (yld_pick_t rfl rfl hg30 rfl) ?_
      exact TL.nil fun a h => ⟨h.weaken ⟨rfl, trivial⟩, hx34⟩
    ·
      rw [hg30] at hb29; simp only [cond_true, cond_false] at hb29
      refine TL.gnu (j := 7) (t := 10) rfl rfl rfl hg30 rfl ?_
      refine TL.gnu (j := 7) (t := 10) rfl rfl rfl hg30 rfl ?_
      obtain rfl := Option.some.inj hb29
      refine TL.yld rfl rfl (yld_pick_f rfl rfl hg30 rfl) ?_
      exact TL.nil fun a h => ⟨h.weaken ⟨rfl, trivial⟩, Ext.refl _⟩
  intro w37 hx38
  have he39 : Ext w w37 := Ext.trans he26 hx38
  have hz40 := (hx38).size
  refine TL.yld rfl rfl (yld_assign rfl rfl) ?_
  refine TL.done ?_
  refine NX.seq ?_
  refine WC.ret' ?_
  obtain rfl := Option.some.inj hF
  exact NX.end (rs := [.tmp 2]) (vs := [.bool c28]) rfl ⟨rfl, trivial⟩ ⟨_, rfl, rfl, he39⟩

-- loop.example/g00861/impl.IsTable
def F_impl_IsTable (n : Nat) (a0_t : S_Table) : Option Bool := (Option.bind (F_impl_isAxis n a0_t.Slews) fun r14 => (Option.bind (bif r14 then (Option.bind (F_impl_isAxis n a0_t.Loads) fun r20 => (some r20)) else (some false)) fun c20 => (Option.bind (bif (c20 && ((((a0_t.Values.length : Int)) == (IntKind.wrap IntKind.i64 (((a0_t.Slews.length : Int)) * ((a0_t.Loads.length : Int))))))) then (Option.bind (F_impl_areWithin n a0_t.Values (-1000000) 1000000) fun r38 => (some r38)) else (some false)) fun c38 => (some c38))))
set_option maxHeartbeats 40000000 in
theorem W_impl_IsTable {n : Nat} {a0_t : S_Table} {r : Bool} {w : World} {v1 : Value} {v3 : Value} {v5 : Value} (hF : F_impl_IsTable n a0_t = some r) (ha2 : slRep (cInt .i64) w (Iv 0 w.heap.size) a0_t.Slews v1) (ha4 : slRep (cInt .i64) w (Iv 0 w.heap.size) a0_t.Loads v3) (ha6 : slRep (cInt .i64) w (Iv 0 w.heap.size) a0_t.Values v5) :
    Calls Tryz.prog 85 [.agg #[v1, v3, v5]].toArray w (Ret fun u w2 => u = .bool r ∧ Ext w w2) := by
  refine calls_of Tryz.func85 rfl Tryz.ntmps85 ?_
  have he0 : Ext w w := Ext.refl w
  unfold F_impl_IsTable at hF
  refine WC.seq ?_
  refine WC.region ?_
  refine TL.eff rfl rfl (eff_box rfl rfl) ?_
  rintro _ w8 ⟨b7, rfl, hn9⟩
  obtain ⟨hn9e, hn9s, hn9x, hb10⟩ := hn9
  have hb10 : Box w8 b7 [v1, v3, v5] 94 := hb10
  have he12 : Ext w w8 := Ext.trans he0 hn9x
  have hz13 := (hn9x).size
  have hlo11 : w.heap.size ≤ b7 := by rw [hn9e]; exact (he0).size
  refine TL.yld rfl rfl (yld_assign rfl rfl) ?_
  refine TL.done ?_
  refine NX.seq ?_
  refine WC.seq ?_
  refine WC.region ?_
  refine TL.yld rfl rfl (yld_fieldAddr rfl fo_94_0 rfl) ?_
  refine TL.yld rfl rfl (yld_load1 0 rfl ag_24 rfl (Box.cells hb10) rfl rfl) ?_
  obtain ⟨r14, hr15, hF⟩ := bsome hF
  refine TL.eff rfl rfl (eff_call rfl gf_95 rfl (W_impl_isAxis hr15 ((slRep.old ha2 he12 (Nat.le_refl _)).wide (Nat.le_refl _) (he12).size))) ?_
  rintro _ w16 ⟨rfl, hx17⟩
  have he18 : Ext w w16 := Ext.trans he12 hx17
  have hb10 := Box.ext hb10 hx17
  have hz19 := (hx17).size
  refine TL.yld rfl rfl (yld_move rfl rfl) ?_
  obtain ⟨c20, hb21, hF⟩ := bsome hF
  refine TL.cut 4 [(1, .pointer (some ⟨b7, 0, none⟩)), (10, .bool c20)] (fun w' => Ext w16 w') ?_ ?_
  · rcases Bool.eq_false_or_eq_true r14 with hg22 | hg22
    ·
      rw [hg22] at hb21; simp only [cond_true, cond_false] at hb21
      replace hF := hb21
      refine TL.gy (j := 3) (t := 6) rfl rfl rfl hg22 rfl (yld_fieldAddr rfl fo_94_1 rfl) ?_
      refine TL.gy (j := 3) (t := 6) rfl rfl rfl hg22 rfl (yld_load1 1 rfl ag_24 rfl (Box.cells hb10) rfl rfl) ?_
      obtain ⟨r23, hr24, hF⟩ := bsome hF
      refine TL.ge (j := 3) (t := 6) rfl rfl rfl hg22 rfl (eff_call rfl gf_95 rfl (W_impl_isAxis hr24 ((slRep.old ha4 he18 (Nat.le_refl _)).wide (Nat.le_refl _) (he18).size))) ?_
      rintro _ w25 ⟨rfl, hx26⟩
      have hb10 := Box.ext hb10 hx26
      have hz28 := (hx26).size
      obtain rfl := Option.some.inj hF
      refine TL.yld rfl rfl (yld_pick_t rfl rfl hg22 rfl) ?_
      exact TL.nil fun a h => ⟨h.weaken ⟨rfl, rfl, trivial⟩, hx26⟩
    ·
      rw [hg22] at hb21; simp only [cond_true, cond_false] at hb21
      refine TL.gnu (j := 3) (t := 6) rfl rfl rfl hg22 rfl ?_
      refine TL.gnu (j := 3) (t := 6) rfl rfl rfl hg22 rfl ?_
      refine TL.gnu (j := 3) (t := 6) rfl rfl rfl hg22 rfl ?_
      obtain rfl := Option.some.inj hb21
      refine TL.yld rfl rfl (yld_pick_f rfl rfl hg22 rfl) ?_
      exact TL.nil fun a h => ⟨h.weaken ⟨rfl, rfl, trivial⟩, Ext.refl _⟩
  intro w29 hx30
  have he31 : Ext w w29 := Ext.trans he18 hx30
  have hb10 := Box.ext hb10 hx30
  have hz32 := (hx30).size
  refine TL.yld rfl rfl (yld_move rfl rfl) ?_
  refine TL.cut 12 [(1, .pointer (some ⟨b7, 0, none⟩)), (23, .bool ((c20 && ((((a0_t.Values.length : Int)) == (IntKind.wrap IntKind.i64 (((a0_t.Slews.length : Int)) * ((a0_t.Loads.length : Int)))))))))] (fun w' => Ext w29 w') ?_ ?_
  · rcases Bool.eq_false_or_eq_true c20 with hg33 | hg33
    ·
      refine TL.gy (j := 8) (t := 11) rfl rfl rfl hg33 rfl (yld_fieldAddr rfl fo_94_2 rfl) ?_
      refine TL.gy (j := 8) (t := 11) rfl rfl rfl hg33 rfl (yld_load1 2 rfl ag_24 rfl (Box.cells hb10) rfl rfl) ?_
      refine TL.gy (j := 8) (t := 11) rfl rfl rfl hg33 rfl (ye_len (c := (cInt .i64)) rfl Tryz.underlying24 rfl (slRep.old ha6 he31 (Nat.le_refl _))) ?_
      refine TL.gy (j := 8) (t := 11) rfl rfl rfl hg33 rfl (yld_fieldAddr rfl fo_94_0 rfl) ?_
      refine TL.gy (j := 8) (t := 11) rfl rfl rfl hg33 rfl (yld_load1 0 rfl ag_24 rfl (Box.cells hb10) rfl rfl) ?_
      refine TL.gy (j := 8) (t := 11) rfl rfl rfl hg33 rfl (ye_len (c := (cInt .i64)) rfl Tryz.underlying24 rfl (slRep.old ha2 he31 (Nat.le_refl _))) ?_
      refine TL.gy (j := 8) (t := 11) rfl rfl rfl hg33 rfl (yld_fieldAddr rfl fo_94_1 rfl) ?_
      refine TL.gy (j := 8) (t := 11) rfl rfl rfl hg33 rfl (yld_load1 1 rfl ag_24 rfl (Box.cells hb10) rfl rfl) ?_
      refine TL.gy (j := 8) (t := 11) rfl rfl rfl hg33 rfl (ye_len (c := (cInt .i64)) rfl Tryz.underlying24 rfl (slRep.old ha4 he31 (Nat.le_refl _))) ?_
      refine TL.gy (j := 8) (t := 11) rfl rfl rfl hg33 rfl (yld_mul rfl rfl rfl) ?_
      refine TL.gy (j := 8) (t := 11) rfl rfl rfl hg33 rfl (yld_eql rfl rfl rfl) ?_
      refine TL.yld rfl rfl (yld_and_t rfl rfl hg33 rfl) ?_
      exact TL.nil fun a h => ⟨h.weaken ⟨rfl, rfl, trivial⟩, Ext.refl _⟩
    ·
      refine TL.gnu (j := 8) (t := 11) rfl rfl rfl hg33 rfl ?_
      refine TL.gnu (j := 8) (t := 11) rfl rfl rfl hg33 rfl ?_
      refine TL.gnu (j := 8) (t := 11) rfl rfl rfl hg33 rfl ?_
      refine TL.gnu (j := 8) (t := 11) rfl rfl rfl hg33 rfl ?_
      refine TL.gnu (j := 8) (t := 11) rfl rfl rfl hg33 rfl ?_
      refine TL.gnu (j := 8) (t := 11) rfl rfl rfl hg33 rfl ?_
      refine TL.gnu (j := 8) (t := 11) rfl rfl rfl hg33 rfl ?_
      refine TL.gnu (j := 8) (t := 11) rfl rfl rfl hg33 rfl ?_
      refine TL.gnu (j := 8) (t := 11) rfl rfl rfl hg33 rfl ?_
      refine TL.gnu (j := 8) (t := 11) rfl rfl rfl hg33 rfl ?_
      refine TL.gnu (j := 8) (t := 11) rfl rfl rfl hg33 rfl ?_
      refine TL.yld rfl rfl (yld_and_f (b2 := (((a0_t.Values.length : Int)) == (IntKind.wrap IntKind.i64 (((a0_t.Slews.length : Int)) * ((a0_t.Loads.length : Int)))))) rfl rfl hg33 rfl) ?_
      exact TL.nil fun a h => ⟨h.weaken ⟨rfl, rfl, trivial⟩, Ext.refl _⟩
  intro w34 hx35
  have he36 : Ext w w34 := Ext.trans he31 hx35
  have hb10 := Box.ext hb10 hx35
  have hz37 := (hx35).size
  refine TL.yld rfl rfl (yld_move rfl rfl) ?_
  obtain ⟨c38, hb39, hF⟩ := bsome hF
  refine TL.cut 4 [(28, .bool c38)] (fun w' => Ext w34 w') ?_ ?_
  · rcases Bool.eq_false_or_eq_true ((c20 && ((((a0_t.Values.length : Int)) == (IntKind.wrap IntKind.i64 (((a0_t.Slews.length : Int)) * ((a0_t.Loads.length : Int)))))))) with hg40 | hg40
    ·
      rw [hg40] at hb39; simp only [cond_true, cond_false] at hb39
      replace hF := hb39
      refine TL.gy (j := 21) (t := 24) rfl rfl rfl hg40 rfl (yld_fieldAddr rfl fo_94_2 rfl) ?_
      refine TL.gy (j := 21) (t := 24) rfl rfl rfl hg40 rfl (yld_load1 2 rfl ag_24 rfl (Box.cells hb10) rfl rfl) ?_
      obtain ⟨r41, hr42, hF⟩ := bsome hF
      refine TL.ge (j := 21) (t := 24) rfl rfl rfl hg40 rfl (eff_call rfl gf_53 rfl (W_impl_areWithin hr42 ((slRep.old ha6 he36 (Nat.le_refl _)).wide (Nat.le_refl _) (he36).size))) ?_
      rintro _ w43 ⟨rfl, hx44⟩
      have hz46 := (hx44).size
      obtain rfl := Option.some.inj hF
      refine TL.yld rfl rfl (yld_pick_t rfl rfl hg40 rfl) ?_
      exact TL.nil fun a h => ⟨h.weaken ⟨rfl, trivial⟩, hx44⟩
    ·
      rw [hg40] at hb39; simp only [cond_true, cond_false] at hb39
      refine TL.gnu (j := 21) (t := 24) rfl rfl rfl hg40 rfl ?_
      refine TL.gnu (j := 21) (t := 24) rfl rfl rfl hg40 rfl ?_
      refine TL.gnu (j := 21) (t := 24) rfl rfl rfl hg40 rfl ?_
      obtain rfl := Option.some.inj hb39
      refine TL.yld rfl rfl (yld_pick_f rfl rfl hg40 rfl) ?_
      exact TL.nil fun a h => ⟨h.weaken ⟨rfl, trivial⟩, Ext.refl _⟩
  intro w47 hx48
  have he49 : Ext w w47 := Ext.trans he36 hx48
  have hz50 := (hx48).size
  refine TL.yld rfl rfl (yld_assign rfl rfl) ?_
  refine TL.done ?_
  refine NX.seq ?_
  refine WC.ret' ?_
  obtain rfl := Option.some.inj hF
  exact NX.end (rs := [.tmp 2]) (vs := [.bool c38]) rfl ⟨rfl, trivial⟩ ⟨_, rfl, rfl, he49⟩

-- slices.Min[[]int64,int64]
def F_slices_Min_int64_int64_L1 (a0_x : List Int) (k0 : Int → Int → Option Int) : Nat → Int → Int → Option Int
  | 0 => fun _ _ => none
  | m + 1 => fun i15 i16 => (bif decide (i16 < (a0_x.length : Int)) then (Option.bind (getI a0_x i16) fun x18 => (F_slices_Min_int64_int64_L1 a0_x k0 m (min i15 x18) (IntKind.wrap IntKind.i64 (i16 + 1)))) else (k0 i15 i16))
theorem F_slices_Min_int64_int64_L1_z (a0_x : List Int) (k0 : Int → Int → Option Int) (i15 : Int) (i16 : Int) : F_slices_Min_int64_int64_L1 a0_x k0 0 i15 i16 = none := rfl
theorem F_slices_Min_int64_int64_L1_s (m : Nat) (a0_x : List Int) (k0 : Int → Int → Option Int) (i15 : Int) (i16 : Int) : F_slices_Min_int64_int64_L1 a0_x k0 (m + 1) i15 i16 = (bif decide (i16 < (a0_x.length : Int)) then (Option.bind (getI a0_x i16) fun x18 => (F_slices_Min_int64_int64_L1 a0_x k0 m (min i15 x18) (IntKind.wrap IntKind.i64 (i16 + 1)))) else (k0 i15 i16)) := rfl

def F_slices_Min_int64_int64 (n : Nat) (a0_x : List Int) : Option Int := (bif decide ((a0_x.length : Int) < 1) then none else (Option.bind (getI a0_x 0) fun x5 => (F_slices_Min_int64_int64_L1 a0_x (fun i15 i16 => (some i15)) n x5 1)))
set_option maxHeartbeats 40000000 in
theorem W_slices_Min_int64_int64 {n : Nat} {a0_x : List Int} {r : Int} {w : World} {v1 : Value} (hF : F_slices_Min_int64_int64 n a0_x = some r) (ha2 : slRep (cInt .i64) w (Iv 0 w.heap.size) a0_x v1) :
    Calls Tryz.prog 86 [v1].toArray w (Ret fun u w2 => u = .int .i64 r ∧ Ext w w2) := by
  refine calls_of Tryz.func86 rfl Tryz.ntmps86 ?_
  have he0 : Ext w w := Ext.refl w
  unfold F_slices_Min_int64_int64 at hF
  refine WC.seq ?_
  refine WC.region ?_
  refine TL.yld rfl rfl (yld_assign rfl rfl) ?_
  refine TL.done ?_
  refine NX.seq ?_
  refine WC.seq ?_
  refine WC.seq ?_
  refine WC.region ?_
  refine TL.yld rfl rfl (yld_move rfl rfl) ?_
  refine TL.yld rfl rfl (ye_len (c := (cInt .i64)) rfl Tryz.underlying24 rfl (slRep.old ha2 he0 (Nat.le_refl _))) ?_
  refine TL.yld rfl rfl (yld_lss rfl rfl rfl) ?_
  refine TL.done ?_
  refine NX.seq ?_
  refine WC.cond rfl ?_ ?_
  · intro hc3
    replace hF := bif_t hc3 hF
    cases hF
  · intro hc4
    replace hF := bif_f hc4 hF
    refine WC.skip' ?_
    refine NX.seq ?_
    refine WC.seq ?_
    refine WC.region ?_
    refine TL.yld rfl rfl (yld_move rfl rfl) ?_
    obtain ⟨x5, hy6, hF⟩ := bsome hF
    refine TL.ye rfl rfl (ye_index (c := (cInt .i64)) rfl Tryz.underlying24 cn_2 rfl rfl (slRep.old ha2 he0 (Nat.le_refl _)) hy6) ?_
    rintro _ ⟨b7, o8, us9, rfl, hib12, hr10, hcl11⟩
    have hib12 : 0 ≤ b7 ∧ b7 < w.heap.size := ⟨hib12.1, by have := hib12.2; omega⟩
    obtain rfl := hr10
    refine TL.yld rfl rfl (yld_load1 0 rfl ag_2 rfl hcl11 rfl rfl) ?_
    refine TL.yld rfl rfl (yld_assign rfl rfl) ?_
    refine TL.done ?_
    refine NX.seq ?_
    refine WC.seq ?_
    refine WC.seq ?_
    refine WC.region ?_
    refine TL.yld rfl rfl (yld_assign rfl rfl) ?_
    refine TL.done ?_
    refine NX.seq ?_
    refine WC.block ?_
    refine WC.loop (fun m17 a wl => ∃ (i15 : Int) (i16 : Int), Kn 25 [(0, v1), (3, .int .i64 i15), (4, .int .i64 i16)] a ∧ Ext w wl ∧ w.heap.size ≤ wl.heap.size ∧ F_slices_Min_int64_int64_L1 a0_x (fun i15 i16 => (some i15)) m17 i15 i16 = some r) n ?_ ?_
    · intro a hK; exact ⟨x5, 1, hK.weaken ⟨rfl, rfl, rfl, trivial⟩, he0, Nat.le_refl _, hF⟩
    · rintro m17 a w13 ⟨i15, i16, hK, he14, hz18, hF⟩
      revert hK; revert a; refine (?_ : WC _ _ _ _ _ _)
      cases m17 with
      | zero => rw [F_slices_Min_int64_int64_L1_z] at hF; cases hF
      | succ m17 =>
        rw [F_slices_Min_int64_int64_L1_s] at hF
        refine WC.seq ?_
        refine WC.seq ?_
        refine WC.region ?_
        refine TL.yld rfl rfl (yld_move rfl rfl) ?_
        refine TL.yld rfl rfl (yld_move rfl rfl) ?_
        refine TL.yld rfl rfl (ye_len (c := (cInt .i64)) rfl Tryz.underlying24 rfl (slRep.old ha2 he14 (Nat.le_refl _))) ?_
        refine TL.yld rfl rfl (yld_lss rfl rfl rfl) ?_
        refine TL.done ?_
        refine NX.seq ?_
        refine WC.cond rfl ?_ ?_
        · intro hc19
          replace hF := bif_t hc19 hF
          refine WC.skip' ?_
          refine NX.seq ?_
          refine WC.seq ?_
          refine WC.block ?_
          refine WC.region ?_
          refine TL.yld rfl rfl (yld_move rfl rfl) ?_
          refine TL.yld rfl rfl (yld_move rfl rfl) ?_
          refine TL.yld rfl rfl (yld_move rfl rfl) ?_
          obtain ⟨x20, hy21, hF⟩ := bsome hF
          refine TL.ye rfl rfl (ye_index (c := (cInt .i64)) rfl Tryz.underlying24 cn_2 rfl rfl (slRep.old ha2 he14 (Nat.le_refl _)) hy21) ?_
          rintro _ ⟨b22, o23, us24, rfl, hib27, hr25, hcl26⟩
          have hib27 : 0 ≤ b22 ∧ b22 < w.heap.size := ⟨hib27.1, by have := hib27.2; omega⟩
          obtain rfl := hr25
          refine TL.yld rfl rfl (yld_load1 0 rfl ag_2 rfl hcl26 rfl rfl) ?_
          refine TL.yld rfl rfl (yld_min2 rfl rfl rfl) ?_
          refine TL.yld rfl rfl (yld_assign rfl rfl) ?_
          refine TL.done ?_
          refine NX.blk_n ?_
          refine NX.seq ?_
          refine WC.region ?_
          refine TL.yld rfl rfl (yld_move rfl rfl) ?_
          refine TL.yld rfl rfl (yld_add rfl rfl rfl) ?_
          refine TL.yld rfl rfl (yld_assign rfl rfl) ?_
          refine TL.done ?_
          refine NX.then_n ?_
          intro a hK; exact ⟨m17, Nat.lt_succ_self m17, (min i15 x20), (IntKind.wrap IntKind.i64 (i16 + 1)), hK.weaken ⟨rfl, rfl, rfl, trivial⟩, he14, (by omega), hF⟩
        · intro hc28
          replace hF := bif_f hc28 hF
          refine WC.exit' ?_
          refine NX.then_e ?_
          refine NX.then_e ?_
          refine NX.blk_hit ?_
          refine NX.seq ?_
          refine WC.seq ?_
          refine WC.region ?_
          refine TL.yld rfl rfl (yld_move rfl rfl) ?_
          refine TL.yld rfl rfl (yld_assign rfl rfl) ?_
          refine TL.done ?_
          refine NX.seq ?_
          refine WC.ret' ?_
          obtain rfl := Option.some.inj hF
          exact NX.end (rs := [.tmp 2]) (vs := [.int .i64 i15]) rfl ⟨rfl, trivial⟩ ⟨_, rfl, rfl, he14⟩

-- loop.example/g00861/impl.areTables$1
def F_impl_areTables_1 (n : Nat) (a0_t : S_Table) (a1_c : Bool) : Option Bool := (Option.bind (F_impl_IsTable n a0_t) fun r15 => (Option.bind (bif (!r15) then (some true) else (Option.bind (bif a1_c then (Option.bind (F_slices_Min_int64_int64 n a0_t.Values) fun r21 => (some (decide (r21 < 0)))) else (some false)) fun c21 => (some c21))) fun c21 => (some c21)))
set_option maxHeartbeats 40000000 in
theorem W_impl_areTables_1 {n : Nat} {a0_t : S_Table} {a1_c : Bool} {r : Bool} {w : World} {v1 : Value} {v3 : Value} {v5 : Value} {b1_ : Nat} (hF : F_impl_areTables_1 n a0_t a1_c = some r) (ha2 : slRep (cInt .i64) w (Iv 0 w.heap.size) a0_t.Slews v1) (ha4 : slRep (cInt .i64) w (Iv 0 w.heap.size) a0_t.Loads v3) (ha6 : slRep (cInt .i64) w (Iv 0 w.heap.size) a0_t.Values v5) (hb7 : Box w b1_ [.bool a1_c] 4) :
    Calls Tryz.prog 84 [.agg #[v1, v3, v5], .pointer (some ⟨b1_, 0, none⟩)].toArray w (Ret fun u w2 => u = .bool r ∧ Ext w w2) := by
  refine calls_of Tryz.func84 rfl Tryz.ntmps84 ?_
  have he0 : Ext w w := Ext.refl w
  have := Box.lt hb7
  unfold F_impl_areTables_1 at hF
  refine WC.seq ?_
  refine WC.region ?_
  refine TL.eff rfl rfl (eff_box rfl rfl) ?_
  rintro _ w9 ⟨b8, rfl, hn10⟩
  obtain ⟨hn10e, hn10s, hn10x, hb11⟩ := hn10
  have hb11 : Box w9 b8 [v1, v3, v5] 94 := hb11
  have he13 : Ext w w9 := Ext.trans he0 hn10x
  have hb7 := Box.ext hb7 hn10x
  have hz14 := (hn10x).size
  have hlo12 : w.heap.size ≤ b8 := by rw [hn10e]; exact (he0).size
  refine TL.yld rfl rfl (yld_assign rfl rfl) ?_
  refine TL.done ?_
  refine NX.seq ?_
  refine WC.seq ?_
  refine WC.region ?_
  refine TL.yld rfl rfl (yld_loadN (us := [v1, v3, v5]) rfl ag_94 rfl (Box.cells hb11) cn_94) ?_
  obtain ⟨r15, hr16, hF⟩ := bsome hF
  refine TL.eff rfl rfl (eff_call rfl gf_85 rfl (W_impl_IsTable hr16 ((slRep.old ha2 he13 (Nat.le_refl _)).wide (Nat.le_refl _) (he13).size) ((slRep.old ha4 he13 (Nat.le_refl _)).wide (Nat.le_refl _) (he13).size) ((slRep.old ha6 he13 (Nat.le_refl _)).wide (Nat.le_refl _) (he13).size))) ?_
  rintro _ w17 ⟨rfl, hx18⟩
  have he19 : Ext w w17 := Ext.trans he13 hx18
  have hb7 := Box.ext hb7 hx18
  have hb11 := Box.ext hb11 hx18
  have hz20 := (hx18).size
  refine TL.yld rfl rfl (yld_not rfl rfl) ?_
  refine TL.yld rfl rfl (yld_move rfl rfl) ?_
  obtain ⟨c21, hb22, hF⟩ := bsome hF
  refine TL.cut 8 [(15, .bool c21)] (fun w' => Ext w17 w') ?_ ?_
  · rcases Bool.eq_false_or_eq_true (!r15) with hg23 | hg23
    ·
      rw [hg23] at hb22; simp only [cond_true, cond_false] at hb22
      refine TL.gnu (j := 3) (t := 7) rfl rfl rfl hg23 rfl ?_
      refine TL.gnu (j := 3) (t := 7) rfl rfl rfl hg23 rfl ?_
      refine TL.gu (j := 5) (t := 9) rfl rfl rfl rfl ?_
      refine TL.gu (j := 5) (t := 9) rfl rfl rfl rfl ?_
      refine TL.gu (j := 5) (t := 9) rfl rfl rfl rfl ?_
      refine TL.gu (j := 5) (t := 9) rfl rfl rfl rfl ?_
      refine TL.gnu (j := 3) (t := 7) rfl rfl rfl hg23 rfl ?_
      obtain rfl := Option.some.inj hb22
      refine TL.yld rfl rfl (yld_pick_t rfl rfl hg23 rfl) ?_
      exact TL.nil fun a h => ⟨h.weaken ⟨rfl, trivial⟩, Ext.refl _⟩
    ·
      rw [hg23] at hb22; simp only [cond_true, cond_false] at hb22
      replace hF := hb22
      refine TL.gy (j := 3) (t := 7) rfl rfl rfl hg23 rfl (yld_load1 0 rfl ag_4 rfl (Box.cells hb7) rfl rfl) ?_
      refine TL.gy (j := 3) (t := 7) rfl rfl rfl hg23 rfl (yld_move rfl rfl) ?_
      obtain ⟨c24, hb25, hF⟩ := bsome hF
      refine TL.cut 5 [(7, .bool (!r15)), (14, .bool c24)] (fun w' => Ext w17 w') ?_ ?_
      · rcases Bool.eq_false_or_eq_true a1_c with hg26 | hg26
        ·
          rw [hg26] at hb25; simp only [cond_true, cond_false] at hb25
          replace hF := hb25
          refine TL.gy (j := 5) (t := 9) rfl rfl rfl hg26 rfl (yld_fieldAddr rfl fo_94_2 rfl) ?_
          refine TL.gy (j := 5) (t := 9) rfl rfl rfl hg26 rfl (yld_load1 2 rfl ag_24 rfl (Box.cells hb11) rfl rfl) ?_
          obtain ⟨r27, hr28, hF⟩ := bsome hF
          refine TL.ge (j := 5) (t := 9) rfl rfl rfl hg26 rfl (eff_call rfl gf_86 rfl (W_slices_Min_int64_int64 hr28 ((slRep.old ha6 he19 (Nat.le_refl _)).wide (Nat.le_refl _) (he19).size))) ?_
          rintro _ w29 ⟨rfl, hx30⟩
          have hz32 := (hx30).size
          refine TL.gy (j := 5) (t := 9) rfl rfl rfl hg26 rfl (yld_lss rfl rfl rfl) ?_
          obtain rfl := Option.some.inj hF
          refine TL.gy (j := 3) (t := 7) rfl rfl rfl hg23 rfl (yld_pick_t rfl rfl hg26 rfl) ?_
          exact TL.nil fun a h => ⟨h.weaken ⟨rfl, rfl, trivial⟩, hx30⟩
        ·
          rw [hg26] at hb25; simp only [cond_true, cond_false] at hb25
          refine TL.gnu (j := 5) (t := 9) rfl rfl rfl hg26 rfl ?_
          refine TL.gnu (j := 5) (t := 9) rfl rfl rfl hg26 rfl ?_
          refine TL.gnu (j := 5) (t := 9) rfl rfl rfl hg26 rfl ?_
          refine TL.gnu (j := 5) (t := 9) rfl rfl rfl hg26 rfl ?_
          obtain rfl := Option.some.inj hb25
          refine TL.gy (j := 3) (t := 7) rfl rfl rfl hg23 rfl (yld_pick_f rfl rfl hg26 rfl) ?_
          exact TL.nil fun a h => ⟨h.weaken ⟨rfl, rfl, trivial⟩, Ext.refl _⟩
      intro w33 hx34
      have hz36 := (hx34).size
      obtain rfl := Option.some.inj hF
      refine TL.yld rfl rfl (yld_pick_f rfl rfl hg23 rfl) ?_
      exact TL.nil fun a h => ⟨h.weaken ⟨rfl, trivial⟩, hx34⟩
  intro w37 hx38
  have he39 : Ext w w37 := Ext.trans he19 hx38
  have hz40 := (hx38).size
  refine TL.yld rfl rfl (yld_assign rfl rfl) ?_
  refine TL.done ?_
  refine NX.seq ?_
  refine WC.ret' ?_
  obtain rfl := Option.some.inj hF
  exact NX.end (rs := [.tmp 3]) (vs := [.bool c21]) rfl ⟨rfl, trivial⟩ ⟨_, rfl, rfl, he39⟩

-- slices.IndexFunc[[]loop.example/g00861/impl.Table,loop.example/g00861/impl.Table]
def F_slices_IndexFunc_impl_Table_impl_Table_on_impl_areTables_1_L1 (n : Nat) (a0_s : List S_Table) (a1c0_c : Bool) (k0 : Int → Option Int) : Nat → Int → Option Int
  | 0 => fun _ => none
  | m + 1 => fun i6 => (bif decide (i6 < (a0_s.length : Int)) then (Option.bind (getI a0_s i6) fun x9 => (Option.bind (F_impl_areTables_1 n x9 a1c0_c) fun r23 => (bif r23 then (some i6) else (F_slices_IndexFunc_impl_Table_impl_Table_on_impl_areTables_1_L1 n a0_s a1c0_c k0 m (IntKind.wrap IntKind.i64 (i6 + 1)))))) else (k0 i6))
theorem F_slices_IndexFunc_impl_Table_impl_Table_on_impl_areTables_1_L1_z (n : Nat) (a0_s : List S_Table) (a1c0_c : Bool) (k0 : Int → Option Int) (i6 : Int) : F_slices_IndexFunc_impl_Table_impl_Table_on_impl_areTables_1_L1 n a0_s a1c0_c k0 0 i6 = none := rfl
theorem F_slices_IndexFunc_impl_Table_impl_Table_on_impl_areTables_1_L1_s (m : Nat) (n : Nat) (a0_s : List S_Table) (a1c0_c : Bool) (k0 : Int → Option Int) (i6 : Int) : F_slices_IndexFunc_impl_Table_impl_Table_on_impl_areTables_1_L1 n a0_s a1c0_c k0 (m + 1) i6 = (bif decide (i6 < (a0_s.length : Int)) then (Option.bind (getI a0_s i6) fun x9 => (Option.bind (F_impl_areTables_1 n x9 a1c0_c) fun r23 => (bif r23 then (some i6) else (F_slices_IndexFunc_impl_Table_impl_Table_on_impl_areTables_1_L1 n a0_s a1c0_c k0 m (IntKind.wrap IntKind.i64 (i6 + 1)))))) else (k0 i6)) := rfl

def F_slices_IndexFunc_impl_Table_impl_Table_on_impl_areTables_1 (n : Nat) (a0_s : List S_Table) (a1c0_c : Bool) : Option Int := (F_slices_IndexFunc_impl_Table_impl_Table_on_impl_areTables_1_L1 n a0_s a1c0_c (fun i6 => (some (-1))) n 0)
set_option maxHeartbeats 40000000 in
theorem W_slices_IndexFunc_impl_Table_impl_Table_on_impl_areTables_1 {n : Nat} {a0_s : List S_Table} {a1c0_c : Bool} {r : Int} {w : World} {v1 : Value} {b1c0_ : Nat} (hF : F_slices_IndexFunc_impl_Table_impl_Table_on_impl_areTables_1 n a0_s a1c0_c = some r) (ha2 : slRep C_Table w (Iv 0 w.heap.size) a0_s v1) (hb3 : Box w b1c0_ [.bool a1c0_c] 4) :
    Calls Tryz.prog 94 [v1, .func (.func 84) #[] [.pointer (some ⟨b1c0_, 0, none⟩)].toArray].toArray w (Ret fun u w2 => u = .int .i64 r ∧ Ext w w2) := by
  refine calls_of Tryz.func94 rfl Tryz.ntmps94 ?_
  have he0 : Ext w w := Ext.refl w
  have := Box.lt hb3
  unfold F_slices_IndexFunc_impl_Table_impl_Table_on_impl_areTables_1 at hF
  refine WC.seq ?_
  refine WC.region ?_
  refine TL.yld rfl rfl (yld_assign rfl rfl) ?_
  refine TL.done ?_
  refine NX.seq ?_
  refine WC.seq ?_
  refine WC.seq ?_
  refine WC.region ?_
  refine TL.yld rfl rfl (yld_move rfl rfl) ?_
  refine TL.yld rfl rfl (ye_len (c := C_Table) rfl Tryz.underlying60 rfl (slRep.old ha2 he0 (Nat.le_refl _))) ?_
  refine TL.yld rfl rfl (yld_move rfl rfl) ?_
  refine TL.done ?_
  refine NX.seq ?_
  refine WC.block ?_
  refine WC.loop (fun m8 a wl => ∃ (i6 : Int), Kn 19 [(0, v1), (1, .func (.func 84) #[] [.pointer (some ⟨b1c0_, 0, none⟩)].toArray), (7, .int .i64 ((a0_s.length : Int))), (8, .int .i64 i6)] a ∧ Ext w wl ∧ w.heap.size ≤ wl.heap.size ∧ Box wl b1c0_ [.bool a1c0_c] 4 ∧ F_slices_IndexFunc_impl_Table_impl_Table_on_impl_areTables_1_L1 n a0_s a1c0_c (fun i6 => (some (-1))) m8 i6 = some r) n ?_ ?_
  · intro a hK; exact ⟨0, hK.weaken ⟨rfl, rfl, rfl, rfl, trivial⟩, he0, Nat.le_refl _, hb3, hF⟩
  · rintro m8 a w4 ⟨i6, hK, he5, hz9, hb7, hF⟩
    revert hK; revert a; refine (?_ : WC _ _ _ _ _ _)
    cases m8 with
    | zero => rw [F_slices_IndexFunc_impl_Table_impl_Table_on_impl_areTables_1_L1_z] at hF; cases hF
    | succ m8 =>
      rw [F_slices_IndexFunc_impl_Table_impl_Table_on_impl_areTables_1_L1_s] at hF
      refine WC.seq ?_
      refine WC.region ?_
      refine TL.yld rfl rfl (yld_lss rfl rfl rfl) ?_
      refine TL.done ?_
      refine NX.seq ?_
      refine WC.seq ?_
      refine WC.cond rfl ?_ ?_
      · intro hc10
        replace hF := bif_t hc10 hF
        refine WC.skip' ?_
        refine NX.seq ?_
        refine WC.seq ?_
        refine WC.block ?_
        refine WC.seq ?_
        refine WC.region ?_
        refine TL.yld rfl rfl (yld_move rfl rfl) ?_
        refine TL.yld rfl rfl (yld_assign rfl rfl) ?_
        refine TL.done ?_
        refine NX.seq ?_
        refine WC.seq ?_
        refine WC.region ?_
        refine TL.yld rfl rfl (yld_move rfl rfl) ?_
        refine TL.yld rfl rfl (yld_move rfl rfl) ?_
        refine TL.yld rfl rfl (yld_move rfl rfl) ?_
        obtain ⟨x11, hy12, hF⟩ := bsome hF
        refine TL.ye rfl rfl (ye_index (c := C_Table) rfl Tryz.underlying60 cn_94 rfl rfl (slRep.old ha2 he5 (Nat.le_refl _)) hy12) ?_
        rintro _ ⟨b13, o14, us15, rfl, hib18, hr16, hcl17⟩
        have hib18 : 0 ≤ b13 ∧ b13 < w.heap.size := ⟨hib18.1, by have := hib18.2; omega⟩
        obtain ⟨v19, v20, v21, rfl, hs22, hs23, hs24⟩ := C_Table_open hr16
        refine TL.yld rfl rfl (yld_loadN (us := [v19, v20, v21]) rfl ag_94 rfl hcl17 cn_94) ?_
        obtain ⟨r25, hr26, hF⟩ := bsome hF
        refine TL.eff rfl rfl (eff_callv rfl gf_84 rfl rfl (W_impl_areTables_1 hr26 (hs22.wide (Nat.zero_le _) (by omega)) (hs23.wide (Nat.zero_le _) (by omega)) (hs24.wide (Nat.zero_le _) (by omega)) hb7)) ?_
        rintro _ w27 ⟨rfl, hx28⟩
        have he29 : Ext w w27 := Ext.trans he5 hx28
        have hb7 := Box.ext hb7 hx28
        have hz30 := (hx28).size
        refine TL.done ?_
        refine NX.seq ?_
        refine WC.cond rfl ?_ ?_
        · intro hc31
          replace hF := bif_t hc31 hF
          refine WC.seq ?_
          refine WC.region ?_
          refine TL.yld rfl rfl (yld_move rfl rfl) ?_
          refine TL.yld rfl rfl (yld_assign rfl rfl) ?_
          refine TL.done ?_
          refine NX.seq ?_
          refine WC.ret' ?_
          refine NX.blk_r ?_
          refine NX.then_r ?_
          refine NX.then_r ?_
          refine NX.blk_r ?_
          refine NX.then_r ?_
          obtain rfl := Option.some.inj hF
          exact NX.end (rs := [.tmp 4]) (vs := [.int .i64 i6]) rfl ⟨rfl, trivial⟩ ⟨_, rfl, rfl, he29⟩
        · intro hc32
          replace hF := bif_f hc32 hF
          refine WC.skip' ?_
          refine NX.blk_n ?_
          refine NX.seq ?_
          refine WC.region ?_
          refine TL.yld rfl rfl (yld_add rfl rfl rfl) ?_
          refine TL.yld rfl rfl (yld_move rfl rfl) ?_
          refine TL.done ?_
          refine NX.then_n ?_
          intro a hK; exact ⟨m8, Nat.lt_succ_self m8, (IntKind.wrap IntKind.i64 (i6 + 1)), hK.weaken ⟨rfl, rfl, rfl, rfl, trivial⟩, he29, (by omega), hb7, hF⟩
      · intro hc33
        replace hF := bif_f hc33 hF
        refine WC.exit' ?_
        refine NX.then_e ?_
        refine NX.then_e ?_
        refine NX.blk_hit ?_
        refine NX.seq ?_
        refine WC.seq ?_
        refine WC.region ?_
        refine TL.yld rfl rfl (yld_assign rfl rfl) ?_
        refine TL.done ?_
        refine NX.seq ?_
        refine WC.ret' ?_
        obtain rfl := Option.some.inj hF
        exact NX.end (rs := [.tmp 4]) (vs := [.int .i64 (-1)]) rfl ⟨rfl, trivial⟩ ⟨_, rfl, rfl, he5⟩

-- slices.ContainsFunc[[]loop.example/g00861/impl.Table,loop.example/g00861/impl.Table]
def F_slices_ContainsFunc_impl_Table_impl_Table_on_impl_areTables_1 (n : Nat) (a0_s : List S_Table) (a1c0_c : Bool) : Option Bool := (Option.bind (F_slices_IndexFunc_impl_Table_impl_Table_on_impl_areTables_1 n a0_s a1c0_c) fun r4 => (some (decide (r4 ≥ 0))))
set_option maxHeartbeats 40000000 in
theorem W_slices_ContainsFunc_impl_Table_impl_Table_on_impl_areTables_1 {n : Nat} {a0_s : List S_Table} {a1c0_c : Bool} {r : Bool} {w : World} {v1 : Value} {b1c0_ : Nat} (hF : F_slices_ContainsFunc_impl_Table_impl_Table_on_impl_areTables_1 n a0_s a1c0_c = some r) (ha2 : slRep C_Table w (Iv 0 w.heap.size) a0_s v1) (hb3 : Box w b1c0_ [.bool a1c0_c] 4) :
    Calls Tryz.prog 83 [v1, .func (.func 84) #[] [.pointer (some ⟨b1c0_, 0, none⟩)].toArray].toArray w (Ret fun u w2 => u = .bool r ∧ Ext w w2) := by
  refine calls_of Tryz.func83 rfl Tryz.ntmps83 ?_
  have he0 : Ext w w := Ext.refl w
  have := Box.lt hb3
  unfold F_slices_ContainsFunc_impl_Table_impl_Table_on_impl_areTables_1 at hF
  refine WC.seq ?_
  refine WC.region ?_
  refine TL.yld rfl rfl (yld_assign rfl rfl) ?_
  refine TL.done ?_
  refine NX.seq ?_
  refine WC.seq ?_
  refine WC.region ?_
  refine TL.yld rfl rfl (yld_move rfl rfl) ?_
  refine TL.yld rfl rfl (yld_move rfl rfl) ?_
  obtain ⟨r4, hr5, hF⟩ := bsome hF
  refine TL.eff rfl rfl (eff_call rfl gf_94 rfl (W_slices_IndexFunc_impl_Table_impl_Table_on_impl_areTables_1 hr5 ((slRep.old ha2 he0 (Nat.le_refl _)).wide (Nat.le_refl _) (he0).size) hb3)) ?_
  rintro _ w6 ⟨rfl, hx7⟩
  have he8 : Ext w w6 := Ext.trans he0 hx7
  have hz9 := (hx7).size
  refine TL.yld rfl rfl (yld_geq rfl rfl rfl) ?_
  refine TL.yld rfl rfl (yld_assign rfl rfl) ?_
  refine TL.done ?_
  refine NX.seq ?_
  refine WC.ret' ?_
  obtain rfl := Option.some.inj hF
  exact NX.end (rs := [.tmp 4]) (vs := [.bool (decide (r4 ≥ 0))]) rfl ⟨rfl, trivial⟩ ⟨_, rfl, rfl, he8⟩

-- loop.example/g00861/impl.areTables
def F_impl_areTables (n : Nat) (a0_list : List S_Table) (a1_positive : Bool) : Option Bool := (Option.bind (bif (((a0_list.length : Int)) == 2) then (Option.bind (F_slices_ContainsFunc_impl_Table_impl_Table_on_impl_areTables_1 n a0_list a1_positive) fun r10 => (some (!r10))) else (some false)) fun c10 => (some c10))
set_option maxHeartbeats 40000000 in
theorem W_impl_areTables {n : Nat} {a0_list : List S_Table} {a1_positive : Bool} {r : Bool} {w : World} {v1 : Value} (hF : F_impl_areTables n a0_list a1_positive = some r) (ha2 : slRep C_Table w (Iv 0 w.heap.size) a0_list v1) :
    Calls Tryz.prog 69 [v1, .bool a1_positive].toArray w (Ret fun u w2 => u = .bool r ∧ Ext w w2) := by
  refine calls_of Tryz.func69 rfl Tryz.ntmps69 ?_
  have he0 : Ext w w := Ext.refl w
  unfold F_impl_areTables at hF
  refine WC.seq ?_
  refine WC.region ?_
  refine TL.eff rfl rfl (eff_box rfl rfl) ?_
  rintro _ w4 ⟨b3, rfl, hn5⟩
  obtain ⟨hn5e, hn5s, hn5x, hb6⟩ := hn5
  have hb6 : Box w4 b3 [.bool a1_positive] 4 := hb6
  have he8 : Ext w w4 := Ext.trans he0 hn5x
  have hz9 := (hn5x).size
  have hlo7 : w.heap.size ≤ b3 := by rw [hn5e]; exact (he0).size
  refine TL.yld rfl rfl (yld_assign rfl rfl) ?_
  refine TL.done ?_
  refine NX.seq ?_
  refine WC.seq ?_
  refine WC.region ?_
  refine TL.yld rfl rfl (yld_move rfl rfl) ?_
  refine TL.yld rfl rfl (ye_len (c := C_Table) rfl Tryz.underlying60 rfl (slRep.old ha2 he8 (Nat.le_refl _))) ?_
  refine TL.yld rfl rfl (yld_eql rfl rfl rfl) ?_
  refine TL.yld rfl rfl (yld_move rfl rfl) ?_
  obtain ⟨c10, hb11, hF⟩ := bsome hF
  refine TL.cut 5 [(13, .bool c10)] (fun w' => Ext w4 w') ?_ ?_
  · rcases Bool.eq_false_or_eq_true ((((a0_list.length : Int)) == 2)) with hg12 | hg12
    ·
      rw [hg12] at hb11; simp only [cond_true, cond_false] at hb11
      replace hF := hb11
      refine TL.gy (j := 3) (t := 8) rfl rfl rfl hg12 rfl (yld_move rfl rfl) ?_
      refine TL.gy (j := 3) (t := 8) rfl rfl rfl hg12 rfl (yld_makeFunc rfl rfl rfl) ?_
      obtain ⟨r13, hr14, hF⟩ := bsome hF
      refine TL.ge (j := 3) (t := 8) rfl rfl rfl hg12 rfl (eff_call rfl gf_83 rfl (W_slices_ContainsFunc_impl_Table_impl_Table_on_impl_areTables_1 hr14 ((slRep.old ha2 he8 (Nat.le_refl _)).wide (Nat.le_refl _) (he8).size) hb6)) ?_
      rintro _ w15 ⟨rfl, hx16⟩
      have hz18 := (hx16).size
      refine TL.gy (j := 3) (t := 8) rfl rfl rfl hg12 rfl (yld_not rfl rfl) ?_
      obtain rfl := Option.some.inj hF
      refine TL.yld rfl rfl (yld_pick_t rfl rfl hg12 rfl) ?_
      exact TL.nil fun a h => ⟨h.weaken ⟨rfl, trivial⟩, hx16⟩
    ·
      rw [hg12] at hb11; simp only [cond_true, cond_false] at hb11
      refine TL.gnu (j := 3) (t := 8) rfl rfl rfl hg12 rfl ?_
      refine TL.gnu (j := 3) (t := 8) rfl rfl rfl hg12 rfl ?_
      refine TL.gnu (j := 3) (t := 8) rfl rfl rfl hg12 rfl ?_
      refine TL.gnu (j := 3) (t := 8) rfl rfl rfl hg12 rfl ?_
      obtain rfl := Option.some.inj hb11
      refine TL.yld rfl rfl (yld_pick_f rfl rfl hg12 rfl) ?_
      exact TL.nil fun a h => ⟨h.weaken ⟨rfl, trivial⟩, Ext.refl _⟩
  intro w19 hx20
  have he21 : Ext w w19 := Ext.trans he8 hx20
  have hz22 := (hx20).size
  refine TL.yld rfl rfl (yld_assign rfl rfl) ?_
  refine TL.done ?_
  refine NX.seq ?_
  refine WC.ret' ?_
  obtain rfl := Option.some.inj hF
  exact NX.end (rs := [.tmp 4]) (vs := [.bool c10]) rfl ⟨rfl, trivial⟩ ⟨_, rfl, rfl, he21⟩

-- (loop.example/g00861/impl.Cell).clock$1
def F_impl_Cell_clock_1 (n : Nat) (a0_p : S_Pin) : Option Bool := (some a0_p.Clock)
set_option maxHeartbeats 40000000 in
theorem W_impl_Cell_clock_1 {n : Nat} {a0_p : S_Pin} {r : Bool} {w : World} (hF : F_impl_Cell_clock_1 n a0_p = some r) :
    Calls Tryz.prog 88 [.agg #[.string a0_p.Name, .int .i64 a0_p.Dir, .int .i64 a0_p.Cap, .bool a0_p.Clock]].toArray w (Ret fun u w2 => u = .bool r ∧ Ext w w2) := by
  refine calls_of Tryz.func88 rfl Tryz.ntmps88 ?_
  have he0 : Ext w w := Ext.refl w
  unfold F_impl_Cell_clock_1 at hF
  refine WC.seq ?_
  refine WC.region ?_
  refine TL.eff rfl rfl (eff_box rfl rfl) ?_
  rintro _ w2 ⟨b1, rfl, hn3⟩
  obtain ⟨hn3e, hn3s, hn3x, hb4⟩ := hn3
  have hb4 : Box w2 b1 [.string a0_p.Name, .int .i64 a0_p.Dir, .int .i64 a0_p.Cap, .bool a0_p.Clock] 67 := hb4
  have he6 : Ext w w2 := Ext.trans he0 hn3x
  have hz7 := (hn3x).size
  have hlo5 : w.heap.size ≤ b1 := by rw [hn3e]; exact (he0).size
  refine TL.yld rfl rfl (yld_assign rfl rfl) ?_
  refine TL.done ?_
  refine NX.seq ?_
  refine WC.seq ?_
  refine WC.region ?_
  refine TL.yld rfl rfl (yld_fieldAddr rfl fo_67_3 rfl) ?_
  refine TL.yld rfl rfl (yld_load1 3 rfl ag_4 rfl (Box.cells hb4) rfl rfl) ?_
  refine TL.yld rfl rfl (yld_assign rfl rfl) ?_
  refine TL.done ?_
  refine NX.seq ?_
  refine WC.ret' ?_
  obtain rfl := Option.some.inj hF
  exact NX.end (rs := [.tmp 2]) (vs := [.bool a0_p.Clock]) rfl ⟨rfl, trivial⟩ ⟨_, rfl, rfl, he6⟩

end Go.Proofs.YthjagnioabgceabGreatDoor
