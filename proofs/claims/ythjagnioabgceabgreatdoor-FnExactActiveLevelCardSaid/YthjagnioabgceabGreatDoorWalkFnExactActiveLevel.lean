/- The walks: every function that FnExactActiveLevel reaches computes the plain function that is typed beside it; no condition. -/
import Derived.Test.YthjagnioabgceabGreatDoorWalkFnExactActiveLevelP1
import Derived.Test.YthjagnioabgceabGreatDoorDat
import Derived.Test.YthjagnioabgceabGreatDoorShelf
set_option linter.all false
set_option maxRecDepth 20000
namespace Go.Proofs.YthjagnioabgceabGreatDoor
open Go Go.RowKit Go.Eng
-- slices.IndexFunc[[]loop.example/g00861/impl.Pin,loop.example/g00861/impl.Pin]
def F_slices_IndexFunc_impl_Pin_impl_Pin_on_impl_Cell_clock_1_L1 (n : Nat) (a0_s : List S_Pin) (k0 : Int → Option Int) : Nat → Int → Option Int
  | 0 => fun _ => none
  | m + 1 => fun i5 => (bif decide (i5 < (a0_s.length : Int)) then (Option.bind (getI a0_s i5) fun x7 => (Option.bind (F_impl_Cell_clock_1 n x7) fun r15 => (bif r15 then (some i5) else (F_slices_IndexFunc_impl_Pin_impl_Pin_on_impl_Cell_clock_1_L1 n a0_s k0 m (IntKind.wrap IntKind.i64 (i5 + 1)))))) else (k0 i5))
theorem F_slices_IndexFunc_impl_Pin_impl_Pin_on_impl_Cell_clock_1_L1_z (n : Nat) (a0_s : List S_Pin) (k0 : Int → Option Int) (i5 : Int) : F_slices_IndexFunc_impl_Pin_impl_Pin_on_impl_Cell_clock_1_L1 n a0_s k0 0 i5 = none := rfl
theorem F_slices_IndexFunc_impl_Pin_impl_Pin_on_impl_Cell_clock_1_L1_s (m : Nat) (n : Nat) (a0_s : List S_Pin) (k0 : Int → Option Int) (i5 : Int) : F_slices_IndexFunc_impl_Pin_impl_Pin_on_impl_Cell_clock_1_L1 n a0_s k0 (m + 1) i5 = (bif decide (i5 < (a0_s.length : Int)) then (Option.bind (getI a0_s i5) fun x7 => (Option.bind (F_impl_Cell_clock_1 n x7) fun r15 => (bif r15 then (some i5) else (F_slices_IndexFunc_impl_Pin_impl_Pin_on_impl_Cell_clock_1_L1 n a0_s k0 m (IntKind.wrap IntKind.i64 (i5 + 1)))))) else (k0 i5)) := rfl

def F_slices_IndexFunc_impl_Pin_impl_Pin_on_impl_Cell_clock_1 (n : Nat) (a0_s : List S_Pin) : Option Int := (F_slices_IndexFunc_impl_Pin_impl_Pin_on_impl_Cell_clock_1_L1 n a0_s (fun i5 => (some (-1))) n 0)
set_option maxHeartbeats 40000000 in
theorem W_slices_IndexFunc_impl_Pin_impl_Pin_on_impl_Cell_clock_1 {n : Nat} {a0_s : List S_Pin} {r : Int} {w : World} {v1 : Value} (hF : F_slices_IndexFunc_impl_Pin_impl_Pin_on_impl_Cell_clock_1 n a0_s = some r) (ha2 : slRep C_Pin w (Iv 0 w.heap.size) a0_s v1) :
    Calls Tryz.prog 87 [v1, .func (.func 88) #[] #[]].toArray w (Ret fun u w2 => u = .int .i64 r ∧ Ext w w2) := by
  refine calls_of Tryz.func87 rfl Tryz.ntmps87 ?_
  have he0 : Ext w w := Ext.refl w
  unfold F_slices_IndexFunc_impl_Pin_impl_Pin_on_impl_Cell_clock_1 at hF
  refine WC.seq ?_
  refine WC.region ?_
  refine TL.yld rfl rfl (yld_assign rfl rfl) ?_
  refine TL.done ?_
  refine NX.seq ?_
  refine WC.seq ?_
  refine WC.seq ?_
  refine WC.region ?_
  refine TL.yld rfl rfl (yld_move rfl rfl) ?_
  refine TL.yld rfl rfl (ye_len (c := C_Pin) rfl Tryz.underlying29 rfl (slRep.old ha2 he0 (Nat.le_refl _))) ?_
  refine TL.yld rfl rfl (yld_move rfl rfl) ?_
  refine TL.done ?_
  refine NX.seq ?_
  refine WC.block ?_
  refine WC.loop (fun m6 a wl => ∃ (i5 : Int), Kn 19 [(0, v1), (1, .func (.func 88) #[] #[]), (7, .int .i64 ((a0_s.length : Int))), (8, .int .i64 i5)] a ∧ Ext w wl ∧ w.heap.size ≤ wl.heap.size ∧ F_slices_IndexFunc_impl_Pin_impl_Pin_on_impl_Cell_clock_1_L1 n a0_s (fun i5 => (some (-1))) m6 i5 = some r) n ?_ ?_
  · intro a hK; exact ⟨0, hK.weaken ⟨rfl, rfl, rfl, rfl, trivial⟩, he0, Nat.le_refl _, hF⟩
  · rintro m6 a w3 ⟨i5, hK, he4, hz7, hF⟩
    revert hK; revert a; refine (?_ : WC _ _ _ _ _ _)
    cases m6 with
    | zero => rw [F_slices_IndexFunc_impl_Pin_impl_Pin_on_impl_Cell_clock_1_L1_z] at hF; cases hF
    | succ m6 =>
      rw [F_slices_IndexFunc_impl_Pin_impl_Pin_on_impl_Cell_clock_1_L1_s] at hF
      refine WC.seq ?_
      refine WC.region ?_
      refine TL.yld rfl rfl (yld_lss rfl rfl rfl) ?_
      refine TL.done ?_
      refine NX.seq ?_
      refine WC.seq ?_
      refine WC.cond rfl ?_ ?_
      · intro hc8
        replace hF := bif_t hc8 hF
        refine WC.skip' ?_
        refine NX.seq ?_
        refine WC.seq ?_
        refine WC.block ?_
        refine WC.seq ?_
        refine WC.region ?_
        refine TL.yld rfl rfl (yld_move rfl rfl) ?_
        refine TL.yld rfl rfl (yld_assign rfl rfl) ?_
        refine TL.done ?_
        refine NX.seq ?_
        refine WC.seq ?_
        refine WC.region ?_
        refine TL.yld rfl rfl (yld_move rfl rfl) ?_
        refine TL.yld rfl rfl (yld_move rfl rfl) ?_
        refine TL.yld rfl rfl (yld_move rfl rfl) ?_
        obtain ⟨x9, hy10, hF⟩ := bsome hF
        refine TL.ye rfl rfl (ye_index (c := C_Pin) rfl Tryz.underlying29 cn_67 rfl rfl (slRep.old ha2 he4 (Nat.le_refl _)) hy10) ?_
        rintro _ ⟨b11, o12, us13, rfl, hib16, hr14, hcl15⟩
        have hib16 : 0 ≤ b11 ∧ b11 < w.heap.size := ⟨hib16.1, by have := hib16.2; omega⟩
        obtain rfl := C_Pin_open hr14
        refine TL.yld rfl rfl (yld_loadN (us := [.string x9.Name, .int .i64 x9.Dir, .int .i64 x9.Cap, .bool x9.Clock]) rfl ag_67 rfl hcl15 cn_67) ?_
        obtain ⟨r17, hr18, hF⟩ := bsome hF
        refine TL.eff rfl rfl (eff_callv rfl gf_88 rfl rfl (W_impl_Cell_clock_1 hr18)) ?_
        rintro _ w19 ⟨rfl, hx20⟩
        have he21 : Ext w w19 := Ext.trans he4 hx20
        have hz22 := (hx20).size
        refine TL.done ?_
        refine NX.seq ?_
        refine WC.cond rfl ?_ ?_
        · intro hc23
          replace hF := bif_t hc23 hF
          refine WC.seq ?_
          refine WC.region ?_
          refine TL.yld rfl rfl (yld_move rfl rfl) ?_
          refine TL.yld rfl rfl (yld_assign rfl rfl) ?_
          refine TL.done ?_
          refine NX.seq ?_
          refine WC.ret' ?_
          refine NX.blk_r ?_
          refine NX.then_r ?_
          refine NX.then_r ?_
          refine NX.blk_r ?_
          refine NX.then_r ?_
          obtain rfl := Option.some.inj hF
          exact NX.end (rs := [.tmp 4]) (vs := [.int .i64 i5]) rfl ⟨rfl, trivial⟩ ⟨_, rfl, rfl, he21⟩
        · intro hc24
          replace hF := bif_f hc24 hF
          refine WC.skip' ?_
          refine NX.blk_n ?_
          refine NX.seq ?_
          refine WC.region ?_
          refine TL.yld rfl rfl (yld_add rfl rfl rfl) ?_
          refine TL.yld rfl rfl (yld_move rfl rfl) ?_
          refine TL.done ?_
          refine NX.then_n ?_
          intro a hK; exact ⟨m6, Nat.lt_succ_self m6, (IntKind.wrap IntKind.i64 (i5 + 1)), hK.weaken ⟨rfl, rfl, rfl, rfl, trivial⟩, he21, (by omega), hF⟩
      · intro hc25
        replace hF := bif_f hc25 hF
        refine WC.exit' ?_
        refine NX.then_e ?_
        refine NX.then_e ?_
        refine NX.blk_hit ?_
        refine NX.seq ?_
        refine WC.seq ?_
        refine WC.region ?_
        refine TL.yld rfl rfl (yld_assign rfl rfl) ?_
        refine TL.done ?_
        refine NX.seq ?_
        refine WC.ret' ?_
        obtain rfl := Option.some.inj hF
        exact NX.end (rs := [.tmp 4]) (vs := [.int .i64 (-1)]) rfl ⟨rfl, trivial⟩ ⟨_, rfl, rfl, he4⟩

-- (loop.example/g00861/impl.Cell).clock
def F_impl_Cell_clock (n : Nat) (a0_c : S_Cell) : Option Int := (Option.bind (F_slices_IndexFunc_impl_Pin_impl_Pin_on_impl_Cell_clock_1 n a0_c.Pins) fun r14 => (some r14))
set_option maxHeartbeats 40000000 in
theorem W_impl_Cell_clock {n : Nat} {a0_c : S_Cell} {r : Int} {w : World} {v1 : Value} {v3 : Value} {v5 : Value} (hF : F_impl_Cell_clock n a0_c = some r) (ha2 : slRep C_Pin w (Iv 0 w.heap.size) a0_c.Pins v1) (ha4 : slRep C_Arc w (Iv 0 w.heap.size) a0_c.Arcs v3) (ha6 : slRep (cInt .i64) w (Iv 0 w.heap.size) a0_c.Truth v5) :
    Calls Tryz.prog 70 [.agg #[.string a0_c.Name, .int .i64 a0_c.Kind, v1, v3, v5, .int .i64 a0_c.Leak, .int .i64 a0_c.Energy]].toArray w (Ret fun u w2 => u = .int .i64 r ∧ Ext w w2) := by
  refine calls_of Tryz.func70 rfl Tryz.ntmps70 ?_
  have he0 : Ext w w := Ext.refl w
  unfold F_impl_Cell_clock at hF
  refine WC.seq ?_
  refine WC.region ?_
  refine TL.eff rfl rfl (eff_box rfl rfl) ?_
  rintro _ w8 ⟨b7, rfl, hn9⟩
  obtain ⟨hn9e, hn9s, hn9x, hb10⟩ := hn9
  have hb10 : Box w8 b7 [.string a0_c.Name, .int .i64 a0_c.Kind, v1, v3, v5, .int .i64 a0_c.Leak, .int .i64 a0_c.Energy] 32 := hb10
  have he12 : Ext w w8 := Ext.trans he0 hn9x
  have hz13 := (hn9x).size
  have hlo11 : w.heap.size ≤ b7 := by rw [hn9e]; exact (he0).size
  refine TL.yld rfl rfl (yld_assign rfl rfl) ?_
  refine TL.done ?_
  refine NX.seq ?_
  refine WC.seq ?_
  refine WC.region ?_
  refine TL.yld rfl rfl (yld_fieldAddr rfl fo_32_2 rfl) ?_
  refine TL.yld rfl rfl (yld_load1 2 rfl ag_29 rfl (Box.cells hb10) rfl rfl) ?_
  obtain ⟨r14, hr15, hF⟩ := bsome hF
  refine TL.eff rfl rfl (eff_call rfl gf_87 rfl (W_slices_IndexFunc_impl_Pin_impl_Pin_on_impl_Cell_clock_1 hr15 ((slRep.old ha2 he12 (Nat.le_refl _)).wide (Nat.le_refl _) (he12).size))) ?_
  rintro _ w16 ⟨rfl, hx17⟩
  have he18 : Ext w w16 := Ext.trans he12 hx17
  have hz19 := (hx17).size
  refine TL.yld rfl rfl (yld_assign rfl rfl) ?_
  refine TL.done ?_
  refine NX.seq ?_
  refine WC.ret' ?_
  obtain rfl := Option.some.inj hF
  exact NX.end (rs := [.tmp 2]) (vs := [.int .i64 r14]) rfl ⟨rfl, trivial⟩ ⟨_, rfl, rfl, he18⟩

-- (loop.example/g00861/impl.Cell).isArc
def F_impl_Cell_isArc (n : Nat) (a0_c : S_Cell) (a1_a : S_Arc) : Option Bool := (Option.bind (F_impl_isCheck n a1_a.Kind) fun r25 => (bif r25 then (Option.bind (bif (((a1_a.Sense == 0)) && ((((a1_a.Slew.length : Int)) == 0))) then (Option.bind (F_impl_areTables n a1_a.Delay false) fun r33 => (some r33)) else (some false)) fun c33 => (Option.bind (bif c33 then (Option.bind (F_impl_Cell_clock n a0_c) fun r38 => (some ((a1_a.From == r38)))) else (some false)) fun c38 => (Option.bind (bif (c38 && (decide (a1_a.From ≥ 0))) then (Option.bind (F_impl_Cell_isInput n a0_c a1_a.To) fun r44 => (some r44)) else (some false)) fun c44 => (some ((c44 && ((a1_a.To != a1_a.From)))))))) else (Option.bind (F_impl_areTables n a1_a.Delay true) fun r55 => (Option.bind (bif (!r55) then (some true) else (Option.bind (F_impl_areTables n a1_a.Slew true) fun r57 => (some (!r57)))) fun c57 => (Option.bind (bif c57 then (some true) else (Option.bind (F_impl_Cell_output n a0_c) fun r62 => (some ((a1_a.To != r62))))) fun c62 => (Option.bind (bif c62 then (some true) else (Option.bind (F_impl_Cell_isInput n a0_c a1_a.From) fun r67 => (some (!r67)))) fun c67 => (bif c67 then (some false) else (bif (a1_a.Kind == 1) then (Option.bind (getI a0_c.Pins a1_a.From) fun x79 => (Option.bind (bif (!x79.Clock) then (Option.bind (F_impl_within n a1_a.Sense 1 3) fun r87 => (some r87)) else (some false)) fun c87 => (some c87))) else (bif (a1_a.Kind == 2) then (bif (a1_a.Kind == 2) then (Option.bind (getI a0_c.Pins a1_a.From) fun x103 => (some ((x103.Clock && ((a1_a.Sense == 0)))))) else (some false)) else (bif (a1_a.Kind == 3) then (Option.bind (getI a0_c.Pins a1_a.From) fun x119 => (some ((x119.Clock && ((a1_a.Sense == 0)))))) else (some false)))))))))))
set_option maxHeartbeats 40000000 in
theorem W_impl_Cell_isArc {n : Nat} {a0_c : S_Cell} {a1_a : S_Arc} {r : Bool} {w : World} {v1 : Value} {v3 : Value} {v5 : Value} {v7 : Value} {v9 : Value} (hF : F_impl_Cell_isArc n a0_c a1_a = some r) (ha2 : slRep C_Pin w (Iv 0 w.heap.size) a0_c.Pins v1) (ha4 : slRep C_Arc w (Iv 0 w.heap.size) a0_c.Arcs v3) (ha6 : slRep (cInt .i64) w (Iv 0 w.heap.size) a0_c.Truth v5) (ha8 : slRep C_Table w (Iv 0 w.heap.size) a1_a.Delay v7) (ha10 : slRep C_Table w (Iv 0 w.heap.size) a1_a.Slew v9) :
    Calls Tryz.prog 50 [.agg #[.string a0_c.Name, .int .i64 a0_c.Kind, v1, v3, v5, .int .i64 a0_c.Leak, .int .i64 a0_c.Energy], .agg #[.int .i64 a1_a.Kind, .int .i64 a1_a.From, .int .i64 a1_a.To, .int .i64 a1_a.Sense, v7, v9]].toArray w (Ret fun u w2 => u = .bool r ∧ Ext w w2) := by
  refine calls_of Tryz.func50 rfl Tryz.ntmps50 ?_
  have he0 : Ext w w := Ext.refl w
  unfold F_impl_Cell_isArc at hF
  refine WC.seq ?_
  refine WC.region ?_
  refine TL.eff rfl rfl (eff_box rfl rfl) ?_
  rintro _ w12 ⟨b11, rfl, hn13⟩
  obtain ⟨hn13e, hn13s, hn13x, hb14⟩ := hn13
  have hb14 : Box w12 b11 [.string a0_c.Name, .int .i64 a0_c.Kind, v1, v3, v5, .int .i64 a0_c.Leak, .int .i64 a0_c.Energy] 32 := hb14
  have he16 : Ext w w12 := Ext.trans he0 hn13x
  have hz17 := (hn13x).size
  have hlo15 : w.heap.size ≤ b11 := by rw [hn13e]; exact (he0).size
  refine TL.eff rfl rfl (eff_box rfl rfl) ?_
  rintro _ w19 ⟨b18, rfl, hn20⟩
  obtain ⟨hn20e, hn20s, hn20x, hb21⟩ := hn20
  have hb21 : Box w19 b18 [.int .i64 a1_a.Kind, .int .i64 a1_a.From, .int .i64 a1_a.To, .int .i64 a1_a.Sense, v7, v9] 62 := hb21
  have he23 : Ext w w19 := Ext.trans he16 hn20x
  have hb14 := Box.ext hb14 hn20x
  have hz24 := (hn20x).size
  have hlo22 : w.heap.size ≤ b18 := by rw [hn20e]; exact (he16).size
  refine TL.yld rfl rfl (yld_assign rfl rfl) ?_
  refine TL.done ?_
  refine NX.seq ?_
  refine WC.seq ?_
  refine WC.seq ?_
  refine WC.region ?_
  refine TL.yld rfl rfl (yld_fieldAddr rfl fo_62_0 rfl) ?_
  refine TL.yld rfl rfl (yld_load1 0 rfl ag_2 rfl (Box.cells hb21) rfl rfl) ?_
  obtain ⟨r25, hr26, hF⟩ := bsome hF
  refine TL.eff rfl rfl (eff_call rfl gf_68 rfl (W_impl_isCheck hr26)) ?_
  rintro _ w27 ⟨rfl, hx28⟩
  have he29 : Ext w w27 := Ext.trans he23 hx28
  have hb14 := Box.ext hb14 hx28
  have hb21 := Box.ext hb21 hx28
  have hz30 := (hx28).size
  refine TL.done ?_
  refine NX.seq ?_
  refine WC.cond rfl ?_ ?_
  · intro hc31
    replace hF := bif_t hc31 hF
    refine WC.seq ?_
    refine WC.quiet Tryz.hm (by kernel_rfl) ?_
    refine QL.yld rfl rfl (Yld.qui (yld_fieldAddr rfl fo_62_3 rfl)) ?_
    refine QL.yld rfl rfl (Yld.qui (yld_load1 3 rfl ag_2 rfl (Box.cells hb21) rfl rfl)) ?_
    refine QL.yld rfl rfl (Yld.qui (yld_eql rfl rfl rfl)) ?_
    refine QL.yld rfl rfl (Yld.qui (yld_move rfl rfl)) ?_
    refine QL.cut 5 [(2, .pointer (some ⟨b11, 0, none⟩)), (3, .pointer (some ⟨b18, 0, none⟩)), (16, .bool ((((a1_a.Sense == 0)) && ((((a1_a.Slew.length : Int)) == 0)))))] ?_ ?_
    · rcases Bool.eq_false_or_eq_true ((a1_a.Sense == 0)) with hg32 | hg32
      ·
        refine QL.gy (j := 3) (t := 11) rfl rfl rfl hg32 rfl (Yld.qui (yld_fieldAddr rfl fo_62_5 rfl)) ?_
        refine QL.gy (j := 3) (t := 11) rfl rfl rfl hg32 rfl (Yld.qui (yld_load1 5 rfl ag_60 rfl (Box.cells hb21) rfl rfl)) ?_
        refine QL.gy (j := 3) (t := 11) rfl rfl rfl hg32 rfl (Yld.qui (ye_len (c := C_Table) rfl Tryz.underlying60 rfl (slRep.old ha10 he29 (Nat.le_refl _)))) ?_
        refine QL.gy (j := 3) (t := 11) rfl rfl rfl hg32 rfl (Yld.qui (yld_eql rfl rfl rfl)) ?_
        refine QL.yld rfl rfl (Yld.qui (yld_and_t rfl rfl hg32 rfl)) ?_
        exact QL.nil fun a h => h.weaken ⟨rfl, rfl, rfl, trivial⟩
      ·
        refine QL.gnu (j := 3) (t := 11) rfl rfl rfl hg32 rfl ?_
        refine QL.gnu (j := 3) (t := 11) rfl rfl rfl hg32 rfl ?_
        refine QL.gnu (j := 3) (t := 11) rfl rfl rfl hg32 rfl ?_
        refine QL.gnu (j := 3) (t := 11) rfl rfl rfl hg32 rfl ?_
        refine QL.yld rfl rfl (Yld.qui (yld_and_f (b2 := (((a1_a.Slew.length : Int)) == 0)) rfl rfl hg32 rfl)) ?_
        exact QL.nil fun a h => h.weaken ⟨rfl, rfl, rfl, trivial⟩
    refine QL.yld rfl rfl (Yld.qui (yld_move rfl rfl)) ?_
    obtain ⟨c33, hb34, hF⟩ := bsome hF
    refine QL.cut 4 [(2, .pointer (some ⟨b11, 0, none⟩)), (3, .pointer (some ⟨b18, 0, none⟩)), (21, .bool c33)] ?_ ?_
    · rcases Bool.eq_false_or_eq_true ((((a1_a.Sense == 0)) && ((((a1_a.Slew.length : Int)) == 0)))) with hg35 | hg35
      ·
        rw [hg35] at hb34; simp only [cond_true, cond_false] at hb34
        replace hF := hb34
        refine QL.gy (j := 9) (t := 17) rfl rfl rfl hg35 rfl (Yld.qui (yld_fieldAddr rfl fo_62_4 rfl)) ?_
        refine QL.gy (j := 9) (t := 17) rfl rfl rfl hg35 rfl (Yld.qui (yld_load1 4 rfl ag_60 rfl (Box.cells hb21) rfl rfl)) ?_
        obtain ⟨r36, hr37, hF⟩ := bsome hF
        refine QL.gy (j := 9) (t := 17) rfl rfl rfl hg35 rfl (qui_call rfl gf_69 rfl fun w' hw' => W_impl_areTables hr37 ((((slRep.old ha8 he29 (Nat.le_refl _)).wide (Nat.le_refl _) (he29).size)).mono (fun k h => ⟨h.1, Nat.lt_of_lt_of_le h.2 (hw').size⟩) (fun k h2 => (hw').block k h2.2))) ?_
        obtain rfl := Option.some.inj hF
        refine QL.yld rfl rfl (Yld.qui (yld_pick_t rfl rfl hg35 rfl)) ?_
        exact QL.nil fun a h => h.weaken ⟨rfl, rfl, rfl, trivial⟩
      ·
        rw [hg35] at hb34; simp only [cond_true, cond_false] at hb34
        refine QL.gnu (j := 9) (t := 17) rfl rfl rfl hg35 rfl ?_
        refine QL.gnu (j := 9) (t := 17) rfl rfl rfl hg35 rfl ?_
        refine QL.gnu (j := 9) (t := 17) rfl rfl rfl hg35 rfl ?_
        obtain rfl := Option.some.inj hb34
        refine QL.yld rfl rfl (Yld.qui (yld_pick_f rfl rfl hg35 rfl)) ?_
        exact QL.nil fun a h => h.weaken ⟨rfl, rfl, rfl, trivial⟩
    refine QL.yld rfl rfl (Yld.qui (yld_move rfl rfl)) ?_
    obtain ⟨c38, hb39, hF⟩ := bsome hF
    refine QL.cut 6 [(2, .pointer (some ⟨b11, 0, none⟩)), (3, .pointer (some ⟨b18, 0, none⟩)), (28, .bool c38)] ?_ ?_
    · rcases Bool.eq_false_or_eq_true c33 with hg40 | hg40
      ·
        rw [hg40] at hb39; simp only [cond_true, cond_false] at hb39
        replace hF := hb39
        refine QL.gy (j := 14) (t := 22) rfl rfl rfl hg40 rfl (Yld.qui (yld_fieldAddr rfl fo_62_1 rfl)) ?_
        refine QL.gy (j := 14) (t := 22) rfl rfl rfl hg40 rfl (Yld.qui (yld_load1 1 rfl ag_2 rfl (Box.cells hb21) rfl rfl)) ?_
        refine QL.gy (j := 14) (t := 22) rfl rfl rfl hg40 rfl (Yld.qui (yld_loadN (us := [.string a0_c.Name, .int .i64 a0_c.Kind, v1, v3, v5, .int .i64 a0_c.Leak, .int .i64 a0_c.Energy]) rfl ag_32 rfl (Box.cells hb14) cn_32)) ?_
        obtain ⟨r41, hr42, hF⟩ := bsome hF
        refine QL.gy (j := 14) (t := 22) rfl rfl rfl hg40 rfl (qui_call rfl gf_70 rfl fun w' hw' => W_impl_Cell_clock hr42 ((((slRep.old ha2 he29 (Nat.le_refl _)).wide (Nat.le_refl _) (he29).size)).mono (fun k h => ⟨h.1, Nat.lt_of_lt_of_le h.2 (hw').size⟩) (fun k h2 => (hw').block k h2.2)) ((((slRep.old ha4 he29 (Nat.le_refl _)).wide (Nat.le_refl _) (he29).size)).mono (fun k h => ⟨h.1, Nat.lt_of_lt_of_le h.2 (hw').size⟩) (fun k h2 => (hw').block k h2.2)) ((((slRep.old ha6 he29 (Nat.le_refl _)).wide (Nat.le_refl _) (he29).size)).mono (fun k h => ⟨h.1, Nat.lt_of_lt_of_le h.2 (hw').size⟩) (fun k h2 => (hw').block k h2.2))) ?_
        refine QL.gy (j := 14) (t := 22) rfl rfl rfl hg40 rfl (Yld.qui (yld_eql rfl rfl rfl)) ?_
        obtain rfl := Option.some.inj hF
        refine QL.yld rfl rfl (Yld.qui (yld_pick_t rfl rfl hg40 rfl)) ?_
        exact QL.nil fun a h => h.weaken ⟨rfl, rfl, rfl, trivial⟩
      ·
        rw [hg40] at hb39; simp only [cond_true, cond_false] at hb39
        refine QL.gnu (j := 14) (t := 22) rfl rfl rfl hg40 rfl ?_
        refine QL.gnu (j := 14) (t := 22) rfl rfl rfl hg40 rfl ?_
        refine QL.gnu (j := 14) (t := 22) rfl rfl rfl hg40 rfl ?_
        refine QL.gnu (j := 14) (t := 22) rfl rfl rfl hg40 rfl ?_
        refine QL.gnu (j := 14) (t := 22) rfl rfl rfl hg40 rfl ?_
        obtain rfl := Option.some.inj hb39
        refine QL.yld rfl rfl (Yld.qui (yld_pick_f rfl rfl hg40 rfl)) ?_
        exact QL.nil fun a h => h.weaken ⟨rfl, rfl, rfl, trivial⟩
    refine QL.yld rfl rfl (Yld.qui (yld_move rfl rfl)) ?_
    refine QL.cut 4 [(2, .pointer (some ⟨b11, 0, none⟩)), (3, .pointer (some ⟨b18, 0, none⟩)), (33, .bool ((c38 && (decide (a1_a.From ≥ 0)))))] ?_ ?_
    · rcases Bool.eq_false_or_eq_true c38 with hg43 | hg43
      ·
        refine QL.gy (j := 21) (t := 29) rfl rfl rfl hg43 rfl (Yld.qui (yld_fieldAddr rfl fo_62_1 rfl)) ?_
        refine QL.gy (j := 21) (t := 29) rfl rfl rfl hg43 rfl (Yld.qui (yld_load1 1 rfl ag_2 rfl (Box.cells hb21) rfl rfl)) ?_
        refine QL.gy (j := 21) (t := 29) rfl rfl rfl hg43 rfl (Yld.qui (yld_geq rfl rfl rfl)) ?_
        refine QL.yld rfl rfl (Yld.qui (yld_and_t rfl rfl hg43 rfl)) ?_
        exact QL.nil fun a h => h.weaken ⟨rfl, rfl, rfl, trivial⟩
      ·
        refine QL.gnu (j := 21) (t := 29) rfl rfl rfl hg43 rfl ?_
        refine QL.gnu (j := 21) (t := 29) rfl rfl rfl hg43 rfl ?_
        refine QL.gnu (j := 21) (t := 29) rfl rfl rfl hg43 rfl ?_
        refine QL.yld rfl rfl (Yld.qui (yld_and_f (b2 := decide (a1_a.From ≥ 0)) rfl rfl hg43 rfl)) ?_
        exact QL.nil fun a h => h.weaken ⟨rfl, rfl, rfl, trivial⟩
    refine QL.yld rfl rfl (Yld.qui (yld_move rfl rfl)) ?_
    obtain ⟨c44, hb45, hF⟩ := bsome hF
    refine QL.cut 5 [(3, .pointer (some ⟨b18, 0, none⟩)), (39, .bool c44)] ?_ ?_
    · rcases Bool.eq_false_or_eq_true ((c38 && (decide (a1_a.From ≥ 0)))) with hg46 | hg46
      ·
        rw [hg46] at hb45; simp only [cond_true, cond_false] at hb45
        replace hF := hb45
        refine QL.gy (j := 26) (t := 34) rfl rfl rfl hg46 rfl (Yld.qui (yld_loadN (us := [.string a0_c.Name, .int .i64 a0_c.Kind, v1, v3, v5, .int .i64 a0_c.Leak, .int .i64 a0_c.Energy]) rfl ag_32 rfl (Box.cells hb14) cn_32)) ?_
        refine QL.gy (j := 26) (t := 34) rfl rfl rfl hg46 rfl (Yld.qui (yld_fieldAddr rfl fo_62_2 rfl)) ?_
        refine QL.gy (j := 26) (t := 34) rfl rfl rfl hg46 rfl (Yld.qui (yld_load1 2 rfl ag_2 rfl (Box.cells hb21) rfl rfl)) ?_
        obtain ⟨r47, hr48, hF⟩ := bsome hF
        refine QL.gy (j := 26) (t := 34) rfl rfl rfl hg46 rfl (qui_call rfl gf_19 rfl fun w' hw' => W_impl_Cell_isInput hr48 ((((slRep.old ha2 he29 (Nat.le_refl _)).wide (Nat.le_refl _) (he29).size)).mono (fun k h => ⟨h.1, Nat.lt_of_lt_of_le h.2 (hw').size⟩) (fun k h2 => (hw').block k h2.2)) ((((slRep.old ha4 he29 (Nat.le_refl _)).wide (Nat.le_refl _) (he29).size)).mono (fun k h => ⟨h.1, Nat.lt_of_lt_of_le h.2 (hw').size⟩) (fun k h2 => (hw').block k h2.2)) ((((slRep.old ha6 he29 (Nat.le_refl _)).wide (Nat.le_refl _) (he29).size)).mono (fun k h => ⟨h.1, Nat.lt_of_lt_of_le h.2 (hw').size⟩) (fun k h2 => (hw').block k h2.2))) ?_
        obtain rfl := Option.some.inj hF
        refine QL.yld rfl rfl (Yld.qui (yld_pick_t rfl rfl hg46 rfl)) ?_
        exact QL.nil fun a h => h.weaken ⟨rfl, rfl, trivial⟩
      ·
        rw [hg46] at hb45; simp only [cond_true, cond_false] at hb45
        refine QL.gnu (j := 26) (t := 34) rfl rfl rfl hg46 rfl ?_
        refine QL.gnu (j := 26) (t := 34) rfl rfl rfl hg46 rfl ?_
        refine QL.gnu (j := 26) (t := 34) rfl rfl rfl hg46 rfl ?_
        refine QL.gnu (j := 26) (t := 34) rfl rfl rfl hg46 rfl ?_
        obtain rfl := Option.some.inj hb45
        refine QL.yld rfl rfl (Yld.qui (yld_pick_f rfl rfl hg46 rfl)) ?_
        exact QL.nil fun a h => h.weaken ⟨rfl, rfl, trivial⟩
    refine QL.yld rfl rfl (Yld.qui (yld_move rfl rfl)) ?_
    refine QL.cut 6 [(46, .bool ((c44 && ((a1_a.To != a1_a.From)))))] ?_ ?_
    · rcases Bool.eq_false_or_eq_true c44 with hg49 | hg49
      ·
        refine QL.gy (j := 32) (t := 40) rfl rfl rfl hg49 rfl (Yld.qui (yld_fieldAddr rfl fo_62_2 rfl)) ?_
        refine QL.gy (j := 32) (t := 40) rfl rfl rfl hg49 rfl (Yld.qui (yld_load1 2 rfl ag_2 rfl (Box.cells hb21) rfl rfl)) ?_
        refine QL.gy (j := 32) (t := 40) rfl rfl rfl hg49 rfl (Yld.qui (yld_fieldAddr rfl fo_62_1 rfl)) ?_
        refine QL.gy (j := 32) (t := 40) rfl rfl rfl hg49 rfl (Yld.qui (yld_load1 1 rfl ag_2 rfl (Box.cells hb21) rfl rfl)) ?_
        refine QL.gy (j := 32) (t := 40) rfl rfl rfl hg49 rfl (Yld.qui (yld_neq rfl rfl rfl)) ?_
        refine QL.yld rfl rfl (Yld.qui (yld_and_t rfl rfl hg49 rfl)) ?_
        exact QL.nil fun a h => h.weaken ⟨rfl, trivial⟩
      ·
        refine QL.gnu (j := 32) (t := 40) rfl rfl rfl hg49 rfl ?_
        refine QL.gnu (j := 32) (t := 40) rfl rfl rfl hg49 rfl ?_
        refine QL.gnu (j := 32) (t := 40) rfl rfl rfl hg49 rfl ?_
        refine QL.gnu (j := 32) (t := 40) rfl rfl rfl hg49 rfl ?_
        refine QL.gnu (j := 32) (t := 40) rfl rfl rfl hg49 rfl ?_
        refine QL.yld rfl rfl (Yld.qui (yld_and_f (b2 := (a1_a.To != a1_a.From)) rfl rfl hg49 rfl)) ?_
        exact QL.nil fun a h => h.weaken ⟨rfl, trivial⟩
    refine QL.yld rfl rfl (Yld.qui (yld_assign rfl rfl)) ?_
    refine QL.done fun w50 hx51 => ?_
    have he52 : Ext w w50 := Ext.trans he29 hx51
    have hb14 := Box.ext hb14 hx51
    have hb21 := Box.ext hb21 hx51
    have hz53 := (hx51).size
    refine NX.seq ?_
    refine WC.ret' ?_
    refine NX.then_r ?_
    obtain rfl := Option.some.inj hF
    exact NX.end (rs := [.tmp 4]) (vs := [.bool ((c44 && ((a1_a.To != a1_a.From))))]) rfl ⟨rfl, trivial⟩ ⟨_, rfl, rfl, he52⟩
  · intro hc54
    replace hF := bif_f hc54 hF
    refine WC.skip' ?_
    refine NX.seq ?_
    refine WC.seq ?_
    refine WC.seq ?_
    refine WC.quiet Tryz.hm (by kernel_rfl) ?_
    refine QL.yld rfl rfl (Yld.qui (yld_fieldAddr rfl fo_62_4 rfl)) ?_
    refine QL.yld rfl rfl (Yld.qui (yld_load1 4 rfl ag_60 rfl (Box.cells hb21) rfl rfl)) ?_
    obtain ⟨r55, hr56, hF⟩ := bsome hF
    refine QL.yld rfl rfl (qui_call rfl gf_69 rfl fun w' hw' => W_impl_areTables hr56 ((((slRep.old ha8 he29 (Nat.le_refl _)).wide (Nat.le_refl _) (he29).size)).mono (fun k h => ⟨h.1, Nat.lt_of_lt_of_le h.2 (hw').size⟩) (fun k h2 => (hw').block k h2.2))) ?_
    refine QL.yld rfl rfl (Yld.qui (yld_not rfl rfl)) ?_
    refine QL.yld rfl rfl (Yld.qui (yld_move rfl rfl)) ?_
    obtain ⟨c57, hb58, hF⟩ := bsome hF
    refine QL.cut 5 [(2, .pointer (some ⟨b11, 0, none⟩)), (3, .pointer (some ⟨b18, 0, none⟩)), (56, .bool c57)] ?_ ?_
    · rcases Bool.eq_false_or_eq_true (!r55) with hg59 | hg59
      ·
        rw [hg59] at hb58; simp only [cond_true, cond_false] at hb58
        refine QL.gnu (j := 4) (t := 51) rfl rfl rfl hg59 rfl ?_
        refine QL.gnu (j := 4) (t := 51) rfl rfl rfl hg59 rfl ?_
        refine QL.gnu (j := 4) (t := 51) rfl rfl rfl hg59 rfl ?_
        refine QL.gnu (j := 4) (t := 51) rfl rfl rfl hg59 rfl ?_
        obtain rfl := Option.some.inj hb58
        refine QL.yld rfl rfl (Yld.qui (yld_pick_t rfl rfl hg59 rfl)) ?_
        exact QL.nil fun a h => h.weaken ⟨rfl, rfl, rfl, trivial⟩
      ·
        rw [hg59] at hb58; simp only [cond_true, cond_false] at hb58
        replace hF := hb58
        refine QL.gy (j := 4) (t := 51) rfl rfl rfl hg59 rfl (Yld.qui (yld_fieldAddr rfl fo_62_5 rfl)) ?_
        refine QL.gy (j := 4) (t := 51) rfl rfl rfl hg59 rfl (Yld.qui (yld_load1 5 rfl ag_60 rfl (Box.cells hb21) rfl rfl)) ?_
        obtain ⟨r60, hr61, hF⟩ := bsome hF
        refine QL.gy (j := 4) (t := 51) rfl rfl rfl hg59 rfl (qui_call rfl gf_69 rfl fun w' hw' => W_impl_areTables hr61 ((((slRep.old ha10 he29 (Nat.le_refl _)).wide (Nat.le_refl _) (he29).size)).mono (fun k h => ⟨h.1, Nat.lt_of_lt_of_le h.2 (hw').size⟩) (fun k h2 => (hw').block k h2.2))) ?_
        refine QL.gy (j := 4) (t := 51) rfl rfl rfl hg59 rfl (Yld.qui (yld_not rfl rfl)) ?_
        obtain rfl := Option.some.inj hF
        refine QL.yld rfl rfl (Yld.qui (yld_pick_f rfl rfl hg59 rfl)) ?_
        exact QL.nil fun a h => h.weaken ⟨rfl, rfl, rfl, trivial⟩
    refine QL.yld rfl rfl (Yld.qui (yld_move rfl rfl)) ?_
    obtain ⟨c62, hb63, hF⟩ := bsome hF
    refine QL.cut 6 [(2, .pointer (some ⟨b11, 0, none⟩)), (3, .pointer (some ⟨b18, 0, none⟩)), (63, .bool c62)] ?_ ?_
    · rcases Bool.eq_false_or_eq_true c57 with hg64 | hg64
      ·
        rw [hg64] at hb63; simp only [cond_true, cond_false] at hb63
        refine QL.gnu (j := 10) (t := 57) rfl rfl rfl hg64 rfl ?_
        refine QL.gnu (j := 10) (t := 57) rfl rfl rfl hg64 rfl ?_
        refine QL.gnu (j := 10) (t := 57) rfl rfl rfl hg64 rfl ?_
        refine QL.gnu (j := 10) (t := 57) rfl rfl rfl hg64 rfl ?_
        refine QL.gnu (j := 10) (t := 57) rfl rfl rfl hg64 rfl ?_
        obtain rfl := Option.some.inj hb63
        refine QL.yld rfl rfl (Yld.qui (yld_pick_t rfl rfl hg64 rfl)) ?_
        exact QL.nil fun a h => h.weaken ⟨rfl, rfl, rfl, trivial⟩
      ·
        rw [hg64] at hb63; simp only [cond_true, cond_false] at hb63
        replace hF := hb63
        refine QL.gy (j := 10) (t := 57) rfl rfl rfl hg64 rfl (Yld.qui (yld_fieldAddr rfl fo_62_2 rfl)) ?_
        refine QL.gy (j := 10) (t := 57) rfl rfl rfl hg64 rfl (Yld.qui (yld_load1 2 rfl ag_2 rfl (Box.cells hb21) rfl rfl)) ?_
        refine QL.gy (j := 10) (t := 57) rfl rfl rfl hg64 rfl (Yld.qui (yld_loadN (us := [.string a0_c.Name, .int .i64 a0_c.Kind, v1, v3, v5, .int .i64 a0_c.Leak, .int .i64 a0_c.Energy]) rfl ag_32 rfl (Box.cells hb14) cn_32)) ?_
        obtain ⟨r65, hr66, hF⟩ := bsome hF
        refine QL.gy (j := 10) (t := 57) rfl rfl rfl hg64 rfl (qui_call rfl gf_39 rfl fun w' hw' => W_impl_Cell_output hr66 ((((slRep.old ha2 he29 (Nat.le_refl _)).wide (Nat.le_refl _) (he29).size)).mono (fun k h => ⟨h.1, Nat.lt_of_lt_of_le h.2 (hw').size⟩) (fun k h2 => (hw').block k h2.2)) ((((slRep.old ha4 he29 (Nat.le_refl _)).wide (Nat.le_refl _) (he29).size)).mono (fun k h => ⟨h.1, Nat.lt_of_lt_of_le h.2 (hw').size⟩) (fun k h2 => (hw').block k h2.2)) ((((slRep.old ha6 he29 (Nat.le_refl _)).wide (Nat.le_refl _) (he29).size)).mono (fun k h => ⟨h.1, Nat.lt_of_lt_of_le h.2 (hw').size⟩) (fun k h2 => (hw').block k h2.2))) ?_
        refine QL.gy (j := 10) (t := 57) rfl rfl rfl hg64 rfl (Yld.qui (yld_neq rfl rfl rfl)) ?_
        obtain rfl := Option.some.inj hF
        refine QL.yld rfl rfl (Yld.qui (yld_pick_f rfl rfl hg64 rfl)) ?_
        exact QL.nil fun a h => h.weaken ⟨rfl, rfl, rfl, trivial⟩
    refine QL.yld rfl rfl (Yld.qui (yld_move rfl rfl)) ?_
    obtain ⟨c67, hb68, hF⟩ := bsome hF
    refine QL.cut 6 [(2, .pointer (some ⟨b11, 0, none⟩)), (3, .pointer (some ⟨b18, 0, none⟩)), (70, .bool c67)] ?_ ?_
    · rcases Bool.eq_false_or_eq_true c62 with hg69 | hg69
      ·
        rw [hg69] at hb68; simp only [cond_true, cond_false] at hb68
        refine QL.gnu (j := 17) (t := 64) rfl rfl rfl hg69 rfl ?_
        refine QL.gnu (j := 17) (t := 64) rfl rfl rfl hg69 rfl ?_
        refine QL.gnu (j := 17) (t := 64) rfl rfl rfl hg69 rfl ?_
        refine QL.gnu (j := 17) (t := 64) rfl rfl rfl hg69 rfl ?_
        refine QL.gnu (j := 17) (t := 64) rfl rfl rfl hg69 rfl ?_
        obtain rfl := Option.some.inj hb68
        refine QL.yld rfl rfl (Yld.qui (yld_pick_t rfl rfl hg69 rfl)) ?_
        exact QL.nil fun a h => h.weaken ⟨rfl, rfl, rfl, trivial⟩
      ·
        rw [hg69] at hb68; simp only [cond_true, cond_false] at hb68
        replace hF := hb68
        refine QL.gy (j := 17) (t := 64) rfl rfl rfl hg69 rfl (Yld.qui (yld_loadN (us := [.string a0_c.Name, .int .i64 a0_c.Kind, v1, v3, v5, .int .i64 a0_c.Leak, .int .i64 a0_c.Energy]) rfl ag_32 rfl (Box.cells hb14) cn_32)) ?_
        refine QL.gy (j := 17) (t := 64) rfl rfl rfl hg69 rfl (Yld.qui (yld_fieldAddr rfl fo_62_1 rfl)) ?_
        refine QL.gy (j := 17) (t := 64) rfl rfl rfl hg69 rfl (Yld.qui (yld_load1 1 rfl ag_2 rfl (Box.cells hb21) rfl rfl)) ?_
        obtain ⟨r70, hr71, hF⟩ := bsome hF
        refine QL.gy (j := 17) (t := 64) rfl rfl rfl hg69 rfl (qui_call rfl gf_19 rfl fun w' hw' => W_impl_Cell_isInput hr71 ((((slRep.old ha2 he29 (Nat.le_refl _)).wide (Nat.le_refl _) (he29).size)).mono (fun k h => ⟨h.1, Nat.lt_of_lt_of_le h.2 (hw').size⟩) (fun k h2 => (hw').block k h2.2)) ((((slRep.old ha4 he29 (Nat.le_refl _)).wide (Nat.le_refl _) (he29).size)).mono (fun k h => ⟨h.1, Nat.lt_of_lt_of_le h.2 (hw').size⟩) (fun k h2 => (hw').block k h2.2)) ((((slRep.old ha6 he29 (Nat.le_refl _)).wide (Nat.le_refl _) (he29).size)).mono (fun k h => ⟨h.1, Nat.lt_of_lt_of_le h.2 (hw').size⟩) (fun k h2 => (hw').block k h2.2))) ?_
        refine QL.gy (j := 17) (t := 64) rfl rfl rfl hg69 rfl (Yld.qui (yld_not rfl rfl)) ?_
        obtain rfl := Option.some.inj hF
        refine QL.yld rfl rfl (Yld.qui (yld_pick_f rfl rfl hg69 rfl)) ?_
        exact QL.nil fun a h => h.weaken ⟨rfl, rfl, rfl, trivial⟩
    refine QL.done fun w72 hx73 => ?_
    have he74 : Ext w w72 := Ext.trans he29 hx73
    have hb14 := Box.ext hb14 hx73
    have hb21 := Box.ext hb21 hx73
    have hz75 := (hx73).size
    refine NX.seq ?_
    refine WC.cond rfl ?_ ?_
    · intro hc76
      replace hF := bif_t hc76 hF
      refine WC.seq ?_
      refine WC.region ?_
      refine TL.yld rfl rfl (yld_assign rfl rfl) ?_
      refine TL.done ?_
      refine NX.seq ?_
      refine WC.ret' ?_
      refine NX.then_r ?_
      obtain rfl := Option.some.inj hF
      exact NX.end (rs := [.tmp 4]) (vs := [.bool false]) rfl ⟨rfl, trivial⟩ ⟨_, rfl, rfl, he74⟩
    · intro hc77
      replace hF := bif_f hc77 hF
      refine WC.skip' ?_
      refine NX.seq ?_
      refine WC.seq ?_
      refine WC.seq ?_
      refine WC.region ?_
      refine TL.yld rfl rfl (yld_fieldAddr rfl fo_62_0 rfl) ?_
      refine TL.yld rfl rfl (yld_load1 0 rfl ag_2 rfl (Box.cells hb21) rfl rfl) ?_
      refine TL.done ?_
      refine NX.seq ?_
      refine WC.block ?_
      refine WC.seq ?_
      refine WC.region ?_
      refine TL.yld rfl rfl (yld_eql rfl rfl rfl) ?_
      refine TL.yld rfl rfl (yld_assign rfl rfl) ?_
      refine TL.done ?_
      refine NX.seq ?_
      refine WC.cond rfl ?_ ?_
      · intro hc78
        replace hF := bif_t hc78 hF
        refine WC.seq ?_
        refine WC.region ?_
        refine TL.yld rfl rfl (yld_fieldAddr rfl fo_32_2 rfl) ?_
        refine TL.yld rfl rfl (yld_load1 2 rfl ag_29 rfl (Box.cells hb14) rfl rfl) ?_
        refine TL.yld rfl rfl (yld_fieldAddr rfl fo_62_1 rfl) ?_
        refine TL.yld rfl rfl (yld_load1 1 rfl ag_2 rfl (Box.cells hb21) rfl rfl) ?_
        obtain ⟨x79, hy80, hF⟩ := bsome hF
        refine TL.ye rfl rfl (ye_index (c := C_Pin) rfl Tryz.underlying29 cn_67 rfl rfl (slRep.old ha2 he74 (Nat.le_refl _)) hy80) ?_
        rintro _ ⟨b81, o82, us83, rfl, hib86, hr84, hcl85⟩
        have hib86 : 0 ≤ b81 ∧ b81 < w.heap.size := ⟨hib86.1, by have := hib86.2; omega⟩
        obtain rfl := C_Pin_open hr84
        refine TL.yld rfl rfl (yld_fieldAddr rfl fo_67_3 rfl) ?_
        refine TL.yld rfl rfl (yld_load1 3 rfl ag_4 rfl hcl85 rfl rfl) ?_
        refine TL.yld rfl rfl (yld_not rfl rfl) ?_
        refine TL.yld rfl rfl (yld_move rfl rfl) ?_
        obtain ⟨c87, hb88, hF⟩ := bsome hF
        refine TL.cut 4 [(87, .bool c87)] (fun w' => Ext w72 w') ?_ ?_
        · rcases Bool.eq_false_or_eq_true (!x79.Clock) with hg89 | hg89
          ·
            rw [hg89] at hb88; simp only [cond_true, cond_false] at hb88
            replace hF := hb88
            refine TL.gy (j := 8) (t := 83) rfl rfl rfl hg89 rfl (yld_fieldAddr rfl fo_62_3 rfl) ?_
            refine TL.gy (j := 8) (t := 83) rfl rfl rfl hg89 rfl (yld_load1 3 rfl ag_2 rfl (Box.cells hb21) rfl rfl) ?_
            obtain ⟨r90, hr91, hF⟩ := bsome hF
            refine TL.ge (j := 8) (t := 83) rfl rfl rfl hg89 rfl (eff_call rfl gf_37 rfl (W_impl_within hr91)) ?_
            rintro _ w92 ⟨rfl, hx93⟩
            have hb14 := Box.ext hb14 hx93
            have hb21 := Box.ext hb21 hx93
            have hz95 := (hx93).size
            obtain rfl := Option.some.inj hF
            refine TL.yld rfl rfl (yld_pick_t rfl rfl hg89 rfl) ?_
            exact TL.nil fun a h => ⟨h.weaken ⟨rfl, trivial⟩, hx93⟩
          ·
            rw [hg89] at hb88; simp only [cond_true, cond_false] at hb88
            refine TL.gnu (j := 8) (t := 83) rfl rfl rfl hg89 rfl ?_
            refine TL.gnu (j := 8) (t := 83) rfl rfl rfl hg89 rfl ?_
            refine TL.gnu (j := 8) (t := 83) rfl rfl rfl hg89 rfl ?_
            obtain rfl := Option.some.inj hb88
            refine TL.yld rfl rfl (yld_pick_f rfl rfl hg89 rfl) ?_
            exact TL.nil fun a h => ⟨h.weaken ⟨rfl, trivial⟩, Ext.refl _⟩
        intro w96 hx97
        have he98 : Ext w w96 := Ext.trans he74 hx97
        have hb14 := Box.ext hb14 hx97
        have hb21 := Box.ext hb21 hx97
        have hz99 := (hx97).size
        refine TL.yld rfl rfl (yld_assign rfl rfl) ?_
        refine TL.done ?_
        refine NX.seq ?_
        refine WC.ret' ?_
        refine NX.blk_r ?_
        refine NX.then_r ?_
        obtain rfl := Option.some.inj hF
        exact NX.end (rs := [.tmp 4]) (vs := [.bool c87]) rfl ⟨rfl, trivial⟩ ⟨_, rfl, rfl, he98⟩
      · intro hc100
        replace hF := bif_f hc100 hF
        refine WC.seq ?_
        refine WC.seq ?_
        refine WC.region ?_
        refine TL.yld rfl rfl (yld_eql rfl rfl rfl) ?_
        refine TL.yld rfl rfl (yld_assign rfl rfl) ?_
        refine TL.done ?_
        refine NX.seq ?_
        refine WC.cond rfl ?_ ?_
        · intro hc101
          replace hF := bif_t hc101 hF
          refine WC.skip' ?_
          refine NX.seq ?_
          refine WC.cond rfl ?_ ?_
          · intro hc102
            replace hF := bif_t hc102 hF
            refine WC.seq ?_
            refine WC.region ?_
            refine TL.yld rfl rfl (yld_fieldAddr rfl fo_32_2 rfl) ?_
            refine TL.yld rfl rfl (yld_load1 2 rfl ag_29 rfl (Box.cells hb14) rfl rfl) ?_
            refine TL.yld rfl rfl (yld_fieldAddr rfl fo_62_1 rfl) ?_
            refine TL.yld rfl rfl (yld_load1 1 rfl ag_2 rfl (Box.cells hb21) rfl rfl) ?_
            obtain ⟨x103, hy104, hF⟩ := bsome hF
            refine TL.ye rfl rfl (ye_index (c := C_Pin) rfl Tryz.underlying29 cn_67 rfl rfl (slRep.old ha2 he74 (Nat.le_refl _)) hy104) ?_
            rintro _ ⟨b105, o106, us107, rfl, hib110, hr108, hcl109⟩
            have hib110 : 0 ≤ b105 ∧ b105 < w.heap.size := ⟨hib110.1, by have := hib110.2; omega⟩
            obtain rfl := C_Pin_open hr108
            refine TL.yld rfl rfl (yld_fieldAddr rfl fo_67_3 rfl) ?_
            refine TL.yld rfl rfl (yld_load1 3 rfl ag_4 rfl hcl109 rfl rfl) ?_
            refine TL.yld rfl rfl (yld_move rfl rfl) ?_
            refine TL.cut 4 [(102, .bool ((x103.Clock && ((a1_a.Sense == 0)))))] (fun w' => Ext w72 w') ?_ ?_
            · rcases Bool.eq_false_or_eq_true x103.Clock with hg111 | hg111
              ·
                refine TL.gy (j := 7) (t := 98) rfl rfl rfl hg111 rfl (yld_fieldAddr rfl fo_62_3 rfl) ?_
                refine TL.gy (j := 7) (t := 98) rfl rfl rfl hg111 rfl (yld_load1 3 rfl ag_2 rfl (Box.cells hb21) rfl rfl) ?_
                refine TL.gy (j := 7) (t := 98) rfl rfl rfl hg111 rfl (yld_eql rfl rfl rfl) ?_
                refine TL.yld rfl rfl (yld_and_t rfl rfl hg111 rfl) ?_
                exact TL.nil fun a h => ⟨h.weaken ⟨rfl, trivial⟩, Ext.refl _⟩
              ·
                refine TL.gnu (j := 7) (t := 98) rfl rfl rfl hg111 rfl ?_
                refine TL.gnu (j := 7) (t := 98) rfl rfl rfl hg111 rfl ?_
                refine TL.gnu (j := 7) (t := 98) rfl rfl rfl hg111 rfl ?_
                refine TL.yld rfl rfl (yld_and_f (b2 := (a1_a.Sense == 0)) rfl rfl hg111 rfl) ?_
                exact TL.nil fun a h => ⟨h.weaken ⟨rfl, trivial⟩, Ext.refl _⟩
            intro w112 hx113
            have he114 : Ext w w112 := Ext.trans he74 hx113
            have hb14 := Box.ext hb14 hx113
            have hb21 := Box.ext hb21 hx113
            have hz115 := (hx113).size
            refine TL.yld rfl rfl (yld_assign rfl rfl) ?_
            refine TL.done ?_
            refine NX.seq ?_
            refine WC.ret' ?_
            refine NX.blk_r ?_
            refine NX.then_r ?_
            obtain rfl := Option.some.inj hF
            exact NX.end (rs := [.tmp 4]) (vs := [.bool ((x103.Clock && ((a1_a.Sense == 0))))]) rfl ⟨rfl, trivial⟩ ⟨_, rfl, rfl, he114⟩
          · intro hc116
            replace hF := bif_f hc116 hF
            refine WC.skip' ?_
            refine NX.blk_n ?_
            refine NX.seq ?_
            refine WC.seq ?_
            refine WC.region ?_
            refine TL.yld rfl rfl (yld_assign rfl rfl) ?_
            refine TL.done ?_
            refine NX.seq ?_
            refine WC.ret' ?_
            obtain rfl := Option.some.inj hF
            exact NX.end (rs := [.tmp 4]) (vs := [.bool false]) rfl ⟨rfl, trivial⟩ ⟨_, rfl, rfl, he74⟩
        · intro hc117
          replace hF := bif_f hc117 hF
          refine WC.region ?_
          refine TL.yld rfl rfl (yld_eql rfl rfl rfl) ?_
          refine TL.yld rfl rfl (yld_assign rfl rfl) ?_
          refine TL.done ?_
          refine NX.seq ?_
          refine WC.cond rfl ?_ ?_
          · intro hc118
            replace hF := bif_t hc118 hF
            refine WC.seq ?_
            refine WC.region ?_
            refine TL.yld rfl rfl (yld_fieldAddr rfl fo_32_2 rfl) ?_
            refine TL.yld rfl rfl (yld_load1 2 rfl ag_29 rfl (Box.cells hb14) rfl rfl) ?_
            refine TL.yld rfl rfl (yld_fieldAddr rfl fo_62_1 rfl) ?_
            refine TL.yld rfl rfl (yld_load1 1 rfl ag_2 rfl (Box.cells hb21) rfl rfl) ?_
            obtain ⟨x119, hy120, hF⟩ := bsome hF
            refine TL.ye rfl rfl (ye_index (c := C_Pin) rfl Tryz.underlying29 cn_67 rfl rfl (slRep.old ha2 he74 (Nat.le_refl _)) hy120) ?_
            rintro _ ⟨b121, o122, us123, rfl, hib126, hr124, hcl125⟩
            have hib126 : 0 ≤ b121 ∧ b121 < w.heap.size := ⟨hib126.1, by have := hib126.2; omega⟩
            obtain rfl := C_Pin_open hr124
            refine TL.yld rfl rfl (yld_fieldAddr rfl fo_67_3 rfl) ?_
            refine TL.yld rfl rfl (yld_load1 3 rfl ag_4 rfl hcl125 rfl rfl) ?_
            refine TL.yld rfl rfl (yld_move rfl rfl) ?_
            refine TL.cut 4 [(102, .bool ((x119.Clock && ((a1_a.Sense == 0)))))] (fun w' => Ext w72 w') ?_ ?_
            · rcases Bool.eq_false_or_eq_true x119.Clock with hg127 | hg127
              ·
                refine TL.gy (j := 7) (t := 98) rfl rfl rfl hg127 rfl (yld_fieldAddr rfl fo_62_3 rfl) ?_
                refine TL.gy (j := 7) (t := 98) rfl rfl rfl hg127 rfl (yld_load1 3 rfl ag_2 rfl (Box.cells hb21) rfl rfl) ?_
                refine TL.gy (j := 7) (t := 98) rfl rfl rfl hg127 rfl (yld_eql rfl rfl rfl) ?_
                refine TL.yld rfl rfl (yld_and_t rfl rfl hg127 rfl) ?_
                exact TL.nil fun a h => ⟨h.weaken ⟨rfl, trivial⟩, Ext.refl _⟩
              ·
                refine TL.gnu (j := 7) (t := 98) rfl rfl rfl hg127 rfl ?_
                refine TL.gnu (j := 7) (t := 98) rfl rfl rfl hg127 rfl ?_
                refine TL.gnu (j := 7) (t := 98) rfl rfl rfl hg127 rfl ?_
                refine TL.yld rfl rfl (yld_and_f (b2 := (a1_a.Sense == 0)) rfl rfl hg127 rfl) ?_
                exact TL.nil fun a h => ⟨h.weaken ⟨rfl, trivial⟩, Ext.refl _⟩
            intro w128 hx129
            have he130 : Ext w w128 := Ext.trans he74 hx129
            have hz131 := (hx129).size
            refine TL.yld rfl rfl (yld_assign rfl rfl) ?_
            refine TL.done ?_
            refine NX.seq ?_
            refine WC.ret' ?_
            refine NX.blk_r ?_
            refine NX.then_r ?_
            obtain rfl := Option.some.inj hF
            exact NX.end (rs := [.tmp 4]) (vs := [.bool ((x119.Clock && ((a1_a.Sense == 0))))]) rfl ⟨rfl, trivial⟩ ⟨_, rfl, rfl, he130⟩
          · intro hc132
            replace hF := bif_f hc132 hF
            refine WC.skip' ?_
            refine NX.blk_n ?_
            refine NX.seq ?_
            refine WC.seq ?_
            refine WC.region ?_
            refine TL.yld rfl rfl (yld_assign rfl rfl) ?_
            refine TL.done ?_
            refine NX.seq ?_
            refine WC.ret' ?_
            obtain rfl := Option.some.inj hF
            exact NX.end (rs := [.tmp 4]) (vs := [.bool false]) rfl ⟨rfl, trivial⟩ ⟨_, rfl, rfl, he74⟩

-- (loop.example/g00861/impl.Cell).areArcs$1
def F_impl_Cell_areArcs_1 (n : Nat) (a0_o : S_Arc) (a1_c : S_Arc) : Option Bool := (some ((((((a0_o.Kind == a1_c.Kind)) && ((a0_o.From == a1_c.From)))) && ((a0_o.To == a1_c.To)))))
set_option maxHeartbeats 40000000 in
theorem W_impl_Cell_areArcs_1 {n : Nat} {a0_o : S_Arc} {a1_c : S_Arc} {r : Bool} {w : World} {v1 : Value} {v3 : Value} {v5 : Value} {v7 : Value} {b1_ : Nat} (hF : F_impl_Cell_areArcs_1 n a0_o a1_c = some r) (ha2 : slRep C_Table w (Iv 0 w.heap.size) a0_o.Delay v1) (ha4 : slRep C_Table w (Iv 0 w.heap.size) a0_o.Slew v3) (hb9 : Box w b1_ [.int .i64 a1_c.Kind, .int .i64 a1_c.From, .int .i64 a1_c.To, .int .i64 a1_c.Sense, v5, v7] 62) (ha6 : slRep C_Table w (Iv 0 w.heap.size) a1_c.Delay v5) (ha8 : slRep C_Table w (Iv 0 w.heap.size) a1_c.Slew v7) :
    Calls Tryz.prog 52 [.agg #[.int .i64 a0_o.Kind, .int .i64 a0_o.From, .int .i64 a0_o.To, .int .i64 a0_o.Sense, v1, v3], .pointer (some ⟨b1_, 0, none⟩)].toArray w (Ret fun u w2 => u = .bool r ∧ Ext w w2) := by
  refine calls_of Tryz.func52 rfl Tryz.ntmps52 ?_
  have he0 : Ext w w := Ext.refl w
  have := Box.lt hb9
  unfold F_impl_Cell_areArcs_1 at hF
  refine WC.seq ?_
  refine WC.region ?_
  refine TL.eff rfl rfl (eff_box rfl rfl) ?_
  rintro _ w11 ⟨b10, rfl, hn12⟩
  obtain ⟨hn12e, hn12s, hn12x, hb13⟩ := hn12
  have hb13 : Box w11 b10 [.int .i64 a0_o.Kind, .int .i64 a0_o.From, .int .i64 a0_o.To, .int .i64 a0_o.Sense, v1, v3] 62 := hb13
  have he15 : Ext w w11 := Ext.trans he0 hn12x
  have hb9 := Box.ext hb9 hn12x
  have hz16 := (hn12x).size
  have hlo14 : w.heap.size ≤ b10 := by rw [hn12e]; exact (he0).size
  refine TL.yld rfl rfl (yld_assign rfl rfl) ?_
  refine TL.done ?_
  refine NX.seq ?_
  refine WC.seq ?_
  refine WC.region ?_
  refine TL.yld rfl rfl (yld_fieldAddr rfl fo_62_0 rfl) ?_
  refine TL.yld rfl rfl (yld_load1 0 rfl ag_2 rfl (Box.cells hb13) rfl rfl) ?_
  refine TL.yld rfl rfl (yld_fieldAddr rfl fo_62_0 rfl) ?_
  refine TL.yld rfl rfl (yld_load1 0 rfl ag_2 rfl (Box.cells hb9) rfl rfl) ?_
  refine TL.yld rfl rfl (yld_eql rfl rfl rfl) ?_
  refine TL.yld rfl rfl (yld_move rfl rfl) ?_
  refine TL.cut 6 [(1, .pointer (some ⟨b1_, 0, none⟩)), (2, .pointer (some ⟨b10, 0, none⟩)), (15, .bool ((((a0_o.Kind == a1_c.Kind)) && ((a0_o.From == a1_c.From)))))] (fun w' => Ext w11 w') ?_ ?_
  · rcases Bool.eq_false_or_eq_true ((a0_o.Kind == a1_c.Kind)) with hg17 | hg17
    ·
      refine TL.gy (j := 5) (t := 9) rfl rfl rfl hg17 rfl (yld_fieldAddr rfl fo_62_1 rfl) ?_
      refine TL.gy (j := 5) (t := 9) rfl rfl rfl hg17 rfl (yld_load1 1 rfl ag_2 rfl (Box.cells hb13) rfl rfl) ?_
      refine TL.gy (j := 5) (t := 9) rfl rfl rfl hg17 rfl (yld_fieldAddr rfl fo_62_1 rfl) ?_
      refine TL.gy (j := 5) (t := 9) rfl rfl rfl hg17 rfl (yld_load1 1 rfl ag_2 rfl (Box.cells hb9) rfl rfl) ?_
      refine TL.gy (j := 5) (t := 9) rfl rfl rfl hg17 rfl (yld_eql rfl rfl rfl) ?_
      refine TL.yld rfl rfl (yld_and_t rfl rfl hg17 rfl) ?_
      exact TL.nil fun a h => ⟨h.weaken ⟨rfl, rfl, rfl, trivial⟩, Ext.refl _⟩
    ·
      refine TL.gnu (j := 5) (t := 9) rfl rfl rfl hg17 rfl ?_
      refine TL.gnu (j := 5) (t := 9) rfl rfl rfl hg17 rfl ?_
      refine TL.gnu (j := 5) (t := 9) rfl rfl rfl hg17 rfl ?_
      refine TL.gnu (j := 5) (t := 9) rfl rfl rfl hg17 rfl ?_
      refine TL.gnu (j := 5) (t := 9) rfl rfl rfl hg17 rfl ?_
      refine TL.yld rfl rfl (yld_and_f (b2 := (a0_o.From == a1_c.From)) rfl rfl hg17 rfl) ?_
      exact TL.nil fun a h => ⟨h.weaken ⟨rfl, rfl, rfl, trivial⟩, Ext.refl _⟩
  intro w18 hx19
  have he20 : Ext w w18 := Ext.trans he15 hx19
  have hb9 := Box.ext hb9 hx19
  have hb13 := Box.ext hb13 hx19
  have hz21 := (hx19).size
  refine TL.yld rfl rfl (yld_move rfl rfl) ?_
  refine TL.cut 6 [(22, .bool ((((((a0_o.Kind == a1_c.Kind)) && ((a0_o.From == a1_c.From)))) && ((a0_o.To == a1_c.To)))))] (fun w' => Ext w18 w') ?_ ?_
  · rcases Bool.eq_false_or_eq_true ((((a0_o.Kind == a1_c.Kind)) && ((a0_o.From == a1_c.From)))) with hg22 | hg22
    ·
      refine TL.gy (j := 12) (t := 16) rfl rfl rfl hg22 rfl (yld_fieldAddr rfl fo_62_2 rfl) ?_
      refine TL.gy (j := 12) (t := 16) rfl rfl rfl hg22 rfl (yld_load1 2 rfl ag_2 rfl (Box.cells hb13) rfl rfl) ?_
      refine TL.gy (j := 12) (t := 16) rfl rfl rfl hg22 rfl (yld_fieldAddr rfl fo_62_2 rfl) ?_
      refine TL.gy (j := 12) (t := 16) rfl rfl rfl hg22 rfl (yld_load1 2 rfl ag_2 rfl (Box.cells hb9) rfl rfl) ?_
      refine TL.gy (j := 12) (t := 16) rfl rfl rfl hg22 rfl (yld_eql rfl rfl rfl) ?_
      refine TL.yld rfl rfl (yld_and_t rfl rfl hg22 rfl) ?_
      exact TL.nil fun a h => ⟨h.weaken ⟨rfl, trivial⟩, Ext.refl _⟩
    ·
      refine TL.gnu (j := 12) (t := 16) rfl rfl rfl hg22 rfl ?_
      refine TL.gnu (j := 12) (t := 16) rfl rfl rfl hg22 rfl ?_
      refine TL.gnu (j := 12) (t := 16) rfl rfl rfl hg22 rfl ?_
      refine TL.gnu (j := 12) (t := 16) rfl rfl rfl hg22 rfl ?_
      refine TL.gnu (j := 12) (t := 16) rfl rfl rfl hg22 rfl ?_
      refine TL.yld rfl rfl (yld_and_f (b2 := (a0_o.To == a1_c.To)) rfl rfl hg22 rfl) ?_
      exact TL.nil fun a h => ⟨h.weaken ⟨rfl, trivial⟩, Ext.refl _⟩
  intro w23 hx24
  have he25 : Ext w w23 := Ext.trans he20 hx24
  have hz26 := (hx24).size
  refine TL.yld rfl rfl (yld_assign rfl rfl) ?_
  refine TL.done ?_
  refine NX.seq ?_
  refine WC.ret' ?_
  obtain rfl := Option.some.inj hF
  exact NX.end (rs := [.tmp 3]) (vs := [.bool ((((((a0_o.Kind == a1_c.Kind)) && ((a0_o.From == a1_c.From)))) && ((a0_o.To == a1_c.To))))]) rfl ⟨rfl, trivial⟩ ⟨_, rfl, rfl, he25⟩

-- slices.IndexFunc[[]loop.example/g00861/impl.Arc,loop.example/g00861/impl.Arc]
def F_slices_IndexFunc_impl_Arc_impl_Arc_on_impl_Cell_areArcs_1_L1 (n : Nat) (a0_s : List S_Arc) (a1c0_c : S_Arc) (k0 : Int → Option Int) : Nat → Int → Option Int
  | 0 => fun _ => none
  | m + 1 => fun i10 => (bif decide (i10 < (a0_s.length : Int)) then (Option.bind (getI a0_s i10) fun x13 => (Option.bind (F_impl_Cell_areArcs_1 n x13 a1c0_c) fun r25 => (bif r25 then (some i10) else (F_slices_IndexFunc_impl_Arc_impl_Arc_on_impl_Cell_areArcs_1_L1 n a0_s a1c0_c k0 m (IntKind.wrap IntKind.i64 (i10 + 1)))))) else (k0 i10))
theorem F_slices_IndexFunc_impl_Arc_impl_Arc_on_impl_Cell_areArcs_1_L1_z (n : Nat) (a0_s : List S_Arc) (a1c0_c : S_Arc) (k0 : Int → Option Int) (i10 : Int) : F_slices_IndexFunc_impl_Arc_impl_Arc_on_impl_Cell_areArcs_1_L1 n a0_s a1c0_c k0 0 i10 = none := rfl
theorem F_slices_IndexFunc_impl_Arc_impl_Arc_on_impl_Cell_areArcs_1_L1_s (m : Nat) (n : Nat) (a0_s : List S_Arc) (a1c0_c : S_Arc) (k0 : Int → Option Int) (i10 : Int) : F_slices_IndexFunc_impl_Arc_impl_Arc_on_impl_Cell_areArcs_1_L1 n a0_s a1c0_c k0 (m + 1) i10 = (bif decide (i10 < (a0_s.length : Int)) then (Option.bind (getI a0_s i10) fun x13 => (Option.bind (F_impl_Cell_areArcs_1 n x13 a1c0_c) fun r25 => (bif r25 then (some i10) else (F_slices_IndexFunc_impl_Arc_impl_Arc_on_impl_Cell_areArcs_1_L1 n a0_s a1c0_c k0 m (IntKind.wrap IntKind.i64 (i10 + 1)))))) else (k0 i10)) := rfl

def F_slices_IndexFunc_impl_Arc_impl_Arc_on_impl_Cell_areArcs_1 (n : Nat) (a0_s : List S_Arc) (a1c0_c : S_Arc) : Option Int := (F_slices_IndexFunc_impl_Arc_impl_Arc_on_impl_Cell_areArcs_1_L1 n a0_s a1c0_c (fun i10 => (some (-1))) n 0)
set_option maxHeartbeats 40000000 in
theorem W_slices_IndexFunc_impl_Arc_impl_Arc_on_impl_Cell_areArcs_1 {n : Nat} {a0_s : List S_Arc} {a1c0_c : S_Arc} {r : Int} {w : World} {v1 : Value} {v3 : Value} {v5 : Value} {b1c0_ : Nat} (hF : F_slices_IndexFunc_impl_Arc_impl_Arc_on_impl_Cell_areArcs_1 n a0_s a1c0_c = some r) (ha2 : slRep C_Arc w (Iv 0 w.heap.size) a0_s v1) (hb7 : Box w b1c0_ [.int .i64 a1c0_c.Kind, .int .i64 a1c0_c.From, .int .i64 a1c0_c.To, .int .i64 a1c0_c.Sense, v3, v5] 62) (ha4 : slRep C_Table w (Iv 0 w.heap.size) a1c0_c.Delay v3) (ha6 : slRep C_Table w (Iv 0 w.heap.size) a1c0_c.Slew v5) :
    Calls Tryz.prog 71 [v1, .func (.func 52) #[] [.pointer (some ⟨b1c0_, 0, none⟩)].toArray].toArray w (Ret fun u w2 => u = .int .i64 r ∧ Ext w w2) := by
  refine calls_of Tryz.func71 rfl Tryz.ntmps71 ?_
  have he0 : Ext w w := Ext.refl w
  have := Box.lt hb7
  unfold F_slices_IndexFunc_impl_Arc_impl_Arc_on_impl_Cell_areArcs_1 at hF
  refine WC.seq ?_
  refine WC.region ?_
  refine TL.yld rfl rfl (yld_assign rfl rfl) ?_
  refine TL.done ?_
  refine NX.seq ?_
  refine WC.seq ?_
  refine WC.seq ?_
  refine WC.region ?_
  refine TL.yld rfl rfl (yld_move rfl rfl) ?_
  refine TL.yld rfl rfl (ye_len (c := C_Arc) rfl Tryz.underlying30 rfl (slRep.old ha2 he0 (Nat.le_refl _))) ?_
  refine TL.yld rfl rfl (yld_move rfl rfl) ?_
  refine TL.done ?_
  refine NX.seq ?_
  refine WC.block ?_
  refine WC.loop (fun m12 a wl => ∃ (i10 : Int), Kn 19 [(0, v1), (1, .func (.func 52) #[] [.pointer (some ⟨b1c0_, 0, none⟩)].toArray), (7, .int .i64 ((a0_s.length : Int))), (8, .int .i64 i10)] a ∧ Ext w wl ∧ w.heap.size ≤ wl.heap.size ∧ Box wl b1c0_ [.int .i64 a1c0_c.Kind, .int .i64 a1c0_c.From, .int .i64 a1c0_c.To, .int .i64 a1c0_c.Sense, v3, v5] 62 ∧ F_slices_IndexFunc_impl_Arc_impl_Arc_on_impl_Cell_areArcs_1_L1 n a0_s a1c0_c (fun i10 => (some (-1))) m12 i10 = some r) n ?_ ?_
  · intro a hK; exact ⟨0, hK.weaken ⟨rfl, rfl, rfl, rfl, trivial⟩, he0, Nat.le_refl _, hb7, hF⟩
  · rintro m12 a w8 ⟨i10, hK, he9, hz13, hb11, hF⟩
    revert hK; revert a; refine (?_ : WC _ _ _ _ _ _)
    cases m12 with
    | zero => rw [F_slices_IndexFunc_impl_Arc_impl_Arc_on_impl_Cell_areArcs_1_L1_z] at hF; cases hF
    | succ m12 =>
      rw [F_slices_IndexFunc_impl_Arc_impl_Arc_on_impl_Cell_areArcs_1_L1_s] at hF
      refine WC.seq ?_
      refine WC.region ?_
      refine TL.yld rfl rfl (yld_lss rfl rfl rfl) ?_
      refine TL.done ?_
      refine NX.seq ?_
      refine WC.seq ?_
      refine WC.cond rfl ?_ ?_
      · intro hc14
        replace hF := bif_t hc14 hF
        refine WC.skip' ?_
        refine NX.seq ?_
        refine WC.seq ?_
        refine WC.block ?_
        refine WC.seq ?_
        refine WC.region ?_
        refine TL.yld rfl rfl (yld_move rfl rfl) ?_
        refine TL.yld rfl rfl (yld_assign rfl rfl) ?_
        refine TL.done ?_
        refine NX.seq ?_
        refine WC.seq ?_
        refine WC.region ?_
        refine TL.yld rfl rfl (yld_move rfl rfl) ?_
        refine TL.yld rfl rfl (yld_move rfl rfl) ?_
        refine TL.yld rfl rfl (yld_move rfl rfl) ?_
        obtain ⟨x15, hy16, hF⟩ := bsome hF
        refine TL.ye rfl rfl (ye_index (c := C_Arc) rfl Tryz.underlying30 cn_62 rfl rfl (slRep.old ha2 he9 (Nat.le_refl _)) hy16) ?_
        rintro _ ⟨b17, o18, us19, rfl, hib22, hr20, hcl21⟩
        have hib22 : 0 ≤ b17 ∧ b17 < w.heap.size := ⟨hib22.1, by have := hib22.2; omega⟩
        obtain ⟨v23, v24, rfl, hs25, hs26⟩ := C_Arc_open hr20
        refine TL.yld rfl rfl (yld_loadN (us := [.int .i64 x15.Kind, .int .i64 x15.From, .int .i64 x15.To, .int .i64 x15.Sense, v23, v24]) rfl ag_62 rfl hcl21 cn_62) ?_
        obtain ⟨r27, hr28, hF⟩ := bsome hF
        refine TL.eff rfl rfl (eff_callv rfl gf_52 rfl rfl (W_impl_Cell_areArcs_1 hr28 (hs25.wide (Nat.zero_le _) (by omega)) (hs26.wide (Nat.zero_le _) (by omega)) hb11 ((slRep.old ha4 he9 (Nat.le_refl _)).wide (Nat.le_refl _) (he9).size) ((slRep.old ha6 he9 (Nat.le_refl _)).wide (Nat.le_refl _) (he9).size))) ?_
        rintro _ w29 ⟨rfl, hx30⟩
        have he31 : Ext w w29 := Ext.trans he9 hx30
        have hb11 := Box.ext hb11 hx30
        have hz32 := (hx30).size
        refine TL.done ?_
        refine NX.seq ?_
        refine WC.cond rfl ?_ ?_
        · intro hc33
          replace hF := bif_t hc33 hF
          refine WC.seq ?_
          refine WC.region ?_
          refine TL.yld rfl rfl (yld_move rfl rfl) ?_
          refine TL.yld rfl rfl (yld_assign rfl rfl) ?_
          refine TL.done ?_
          refine NX.seq ?_
          refine WC.ret' ?_
          refine NX.blk_r ?_
          refine NX.then_r ?_
          refine NX.then_r ?_
          refine NX.blk_r ?_
          refine NX.then_r ?_
          obtain rfl := Option.some.inj hF
          exact NX.end (rs := [.tmp 4]) (vs := [.int .i64 i10]) rfl ⟨rfl, trivial⟩ ⟨_, rfl, rfl, he31⟩
        · intro hc34
          replace hF := bif_f hc34 hF
          refine WC.skip' ?_
          refine NX.blk_n ?_
          refine NX.seq ?_
          refine WC.region ?_
          refine TL.yld rfl rfl (yld_add rfl rfl rfl) ?_
          refine TL.yld rfl rfl (yld_move rfl rfl) ?_
          refine TL.done ?_
          refine NX.then_n ?_
          intro a hK; exact ⟨m12, Nat.lt_succ_self m12, (IntKind.wrap IntKind.i64 (i10 + 1)), hK.weaken ⟨rfl, rfl, rfl, rfl, trivial⟩, he31, (by omega), hb11, hF⟩
      · intro hc35
        replace hF := bif_f hc35 hF
        refine WC.exit' ?_
        refine NX.then_e ?_
        refine NX.then_e ?_
        refine NX.blk_hit ?_
        refine NX.seq ?_
        refine WC.seq ?_
        refine WC.region ?_
        refine TL.yld rfl rfl (yld_assign rfl rfl) ?_
        refine TL.done ?_
        refine NX.seq ?_
        refine WC.ret' ?_
        obtain rfl := Option.some.inj hF
        exact NX.end (rs := [.tmp 4]) (vs := [.int .i64 (-1)]) rfl ⟨rfl, trivial⟩ ⟨_, rfl, rfl, he9⟩

-- slices.ContainsFunc[[]loop.example/g00861/impl.Arc,loop.example/g00861/impl.Arc]
def F_slices_ContainsFunc_impl_Arc_impl_Arc_on_impl_Cell_areArcs_1 (n : Nat) (a0_s : List S_Arc) (a1c0_c : S_Arc) : Option Bool := (Option.bind (F_slices_IndexFunc_impl_Arc_impl_Arc_on_impl_Cell_areArcs_1 n a0_s a1c0_c) fun r8 => (some (decide (r8 ≥ 0))))
set_option maxHeartbeats 40000000 in
theorem W_slices_ContainsFunc_impl_Arc_impl_Arc_on_impl_Cell_areArcs_1 {n : Nat} {a0_s : List S_Arc} {a1c0_c : S_Arc} {r : Bool} {w : World} {v1 : Value} {v3 : Value} {v5 : Value} {b1c0_ : Nat} (hF : F_slices_ContainsFunc_impl_Arc_impl_Arc_on_impl_Cell_areArcs_1 n a0_s a1c0_c = some r) (ha2 : slRep C_Arc w (Iv 0 w.heap.size) a0_s v1) (hb7 : Box w b1c0_ [.int .i64 a1c0_c.Kind, .int .i64 a1c0_c.From, .int .i64 a1c0_c.To, .int .i64 a1c0_c.Sense, v3, v5] 62) (ha4 : slRep C_Table w (Iv 0 w.heap.size) a1c0_c.Delay v3) (ha6 : slRep C_Table w (Iv 0 w.heap.size) a1c0_c.Slew v5) :
    Calls Tryz.prog 51 [v1, .func (.func 52) #[] [.pointer (some ⟨b1c0_, 0, none⟩)].toArray].toArray w (Ret fun u w2 => u = .bool r ∧ Ext w w2) := by
  refine calls_of Tryz.func51 rfl Tryz.ntmps51 ?_
  have he0 : Ext w w := Ext.refl w
  have := Box.lt hb7
  unfold F_slices_ContainsFunc_impl_Arc_impl_Arc_on_impl_Cell_areArcs_1 at hF
  refine WC.seq ?_
  refine WC.region ?_
  refine TL.yld rfl rfl (yld_assign rfl rfl) ?_
  refine TL.done ?_
  refine NX.seq ?_
  refine WC.seq ?_
  refine WC.region ?_
  refine TL.yld rfl rfl (yld_move rfl rfl) ?_
  refine TL.yld rfl rfl (yld_move rfl rfl) ?_
  obtain ⟨r8, hr9, hF⟩ := bsome hF
  refine TL.eff rfl rfl (eff_call rfl gf_71 rfl (W_slices_IndexFunc_impl_Arc_impl_Arc_on_impl_Cell_areArcs_1 hr9 ((slRep.old ha2 he0 (Nat.le_refl _)).wide (Nat.le_refl _) (he0).size) hb7 ((slRep.old ha4 he0 (Nat.le_refl _)).wide (Nat.le_refl _) (he0).size) ((slRep.old ha6 he0 (Nat.le_refl _)).wide (Nat.le_refl _) (he0).size))) ?_
  rintro _ w10 ⟨rfl, hx11⟩
  have he12 : Ext w w10 := Ext.trans he0 hx11
  have hz13 := (hx11).size
  refine TL.yld rfl rfl (yld_geq rfl rfl rfl) ?_
  refine TL.yld rfl rfl (yld_assign rfl rfl) ?_
  refine TL.done ?_
  refine NX.seq ?_
  refine WC.ret' ?_
  obtain rfl := Option.some.inj hF
  exact NX.end (rs := [.tmp 4]) (vs := [.bool (decide (r8 ≥ 0))]) rfl ⟨rfl, trivial⟩ ⟨_, rfl, rfl, he12⟩

-- (loop.example/g00861/impl.Cell).areArcs
def F_impl_Cell_areArcs_L1 (n : Nat) (a0_c : S_Cell) (k0 : Int → Option Bool) : Nat → Int → Option Bool
  | 0 => fun _ => none
  | m + 1 => fun i16 => (bif decide (i16 < (a0_c.Arcs.length : Int)) then (Option.bind (getI a0_c.Arcs i16) fun x19 => (Option.bind (F_impl_Cell_isArc n a0_c x19) fun r43 => (Option.bind (bif (!r43) then (some true) else (Option.bind (subL a0_c.Arcs 0 i16) fun z49 => (Option.bind (F_slices_ContainsFunc_impl_Arc_impl_Arc_on_impl_Cell_areArcs_1 n z49 x19) fun r53 => (some r53)))) fun c49 => (bif c49 then (some false) else (F_impl_Cell_areArcs_L1 n a0_c k0 m (IntKind.wrap IntKind.i64 (i16 + 1))))))) else (k0 i16))
theorem F_impl_Cell_areArcs_L1_z (n : Nat) (a0_c : S_Cell) (k0 : Int → Option Bool) (i16 : Int) : F_impl_Cell_areArcs_L1 n a0_c k0 0 i16 = none := rfl
theorem F_impl_Cell_areArcs_L1_s (m : Nat) (n : Nat) (a0_c : S_Cell) (k0 : Int → Option Bool) (i16 : Int) : F_impl_Cell_areArcs_L1 n a0_c k0 (m + 1) i16 = (bif decide (i16 < (a0_c.Arcs.length : Int)) then (Option.bind (getI a0_c.Arcs i16) fun x19 => (Option.bind (F_impl_Cell_isArc n a0_c x19) fun r43 => (Option.bind (bif (!r43) then (some true) else (Option.bind (subL a0_c.Arcs 0 i16) fun z49 => (Option.bind (F_slices_ContainsFunc_impl_Arc_impl_Arc_on_impl_Cell_areArcs_1 n z49 x19) fun r53 => (some r53)))) fun c49 => (bif c49 then (some false) else (F_impl_Cell_areArcs_L1 n a0_c k0 m (IntKind.wrap IntKind.i64 (i16 + 1))))))) else (k0 i16)) := rfl

def F_impl_Cell_areArcs (n : Nat) (a0_c : S_Cell) : Option Bool := (F_impl_Cell_areArcs_L1 n a0_c (fun i16 => (some (decide ((a0_c.Arcs.length : Int) ≤ 8)))) n 0)
set_option maxHeartbeats 40000000 in
theorem W_impl_Cell_areArcs {n : Nat} {a0_c : S_Cell} {r : Bool} {w : World} {v1 : Value} {v3 : Value} {v5 : Value} (hF : F_impl_Cell_areArcs n a0_c = some r) (ha2 : slRep C_Pin w (Iv 0 w.heap.size) a0_c.Pins v1) (ha4 : slRep C_Arc w (Iv 0 w.heap.size) a0_c.Arcs v3) (ha6 : slRep (cInt .i64) w (Iv 0 w.heap.size) a0_c.Truth v5) :
    Calls Tryz.prog 36 [.agg #[.string a0_c.Name, .int .i64 a0_c.Kind, v1, v3, v5, .int .i64 a0_c.Leak, .int .i64 a0_c.Energy]].toArray w (Ret fun u w2 => u = .bool r ∧ Ext w w2) := by
  refine calls_of Tryz.func36 rfl Tryz.ntmps36 ?_
  have he0 : Ext w w := Ext.refl w
  unfold F_impl_Cell_areArcs at hF
  refine WC.seq ?_
  refine WC.region ?_
  refine TL.eff rfl rfl (eff_box rfl rfl) ?_
  rintro _ w8 ⟨b7, rfl, hn9⟩
  obtain ⟨hn9e, hn9s, hn9x, hb10⟩ := hn9
  have hb10 : Box w8 b7 [.string a0_c.Name, .int .i64 a0_c.Kind, v1, v3, v5, .int .i64 a0_c.Leak, .int .i64 a0_c.Energy] 32 := hb10
  have he12 : Ext w w8 := Ext.trans he0 hn9x
  have hz13 := (hn9x).size
  have hlo11 : w.heap.size ≤ b7 := by rw [hn9e]; exact (he0).size
  refine TL.yld rfl rfl (yld_assign rfl rfl) ?_
  refine TL.done ?_
  refine NX.seq ?_
  refine WC.seq ?_
  refine WC.seq ?_
  refine WC.region ?_
  refine TL.yld rfl rfl (yld_fieldAddr rfl fo_32_3 rfl) ?_
  refine TL.yld rfl rfl (yld_load1 3 rfl ag_30 rfl (Box.cells hb10) rfl rfl) ?_
  refine TL.yld rfl rfl (ye_len (c := C_Arc) rfl Tryz.underlying30 rfl (slRep.old ha4 he12 (Nat.le_refl _))) ?_
  refine TL.yld rfl rfl (yld_move rfl rfl) ?_
  refine TL.done ?_
  refine NX.seq ?_
  refine WC.block ?_
  refine WC.loop (fun m18 a wl => ∃ (i16 : Int), Kn 30 [(1, .pointer (some ⟨b7, 0, none⟩)), (6, v3), (7, .int .i64 ((a0_c.Arcs.length : Int))), (8, .int .i64 i16)] a ∧ Ext w wl ∧ w8.heap.size ≤ wl.heap.size ∧ Box wl b7 [.string a0_c.Name, .int .i64 a0_c.Kind, v1, v3, v5, .int .i64 a0_c.Leak, .int .i64 a0_c.Energy] 32 ∧ F_impl_Cell_areArcs_L1 n a0_c (fun i16 => (some (decide ((a0_c.Arcs.length : Int) ≤ 8)))) m18 i16 = some r) n ?_ ?_
  · intro a hK; exact ⟨0, hK.weaken ⟨rfl, rfl, rfl, rfl, trivial⟩, he12, Nat.le_refl _, hb10, hF⟩
  · rintro m18 a w14 ⟨i16, hK, he15, hz19, hb17, hF⟩
    revert hK; revert a; refine (?_ : WC _ _ _ _ _ _)
    cases m18 with
    | zero => rw [F_impl_Cell_areArcs_L1_z] at hF; cases hF
    | succ m18 =>
      rw [F_impl_Cell_areArcs_L1_s] at hF
      refine WC.seq ?_
      refine WC.region ?_
      refine TL.yld rfl rfl (yld_lss rfl rfl rfl) ?_
      refine TL.done ?_
      refine NX.seq ?_
      refine WC.seq ?_
      refine WC.cond rfl ?_ ?_
      · intro hc20
        replace hF := bif_t hc20 hF
        refine WC.skip' ?_
        refine NX.seq ?_
        refine WC.seq ?_
        refine WC.block ?_
        refine WC.seq ?_
        refine WC.region ?_
        refine TL.yld rfl rfl (yld_move rfl rfl) ?_
        obtain ⟨x21, hy22, hF⟩ := bsome hF
        refine TL.ye rfl rfl (ye_index (c := C_Arc) rfl Tryz.underlying30 cn_62 rfl rfl (slRep.old ha4 he15 (Nat.le_refl _)) hy22) ?_
        rintro _ ⟨b23, o24, us25, rfl, hib28, hr26, hcl27⟩
        have hib28 : 0 ≤ b23 ∧ b23 < w.heap.size := ⟨hib28.1, by have := hib28.2; omega⟩
        obtain ⟨v29, v30, rfl, hs31, hs32⟩ := C_Arc_open hr26
        refine TL.yld rfl rfl (yld_loadN (us := [.int .i64 x21.Kind, .int .i64 x21.From, .int .i64 x21.To, .int .i64 x21.Sense, v29, v30]) rfl ag_62 rfl hcl27 cn_62) ?_
        refine TL.eff rfl rfl (eff_alloc rfl zn_62) ?_
        rintro _ w34 ⟨b33, rfl, hn35⟩
        obtain ⟨hn35e, hn35s, hn35x, hb36⟩ := hn35
        have hb36 : Box w34 b33 [.int .i64 0, .int .i64 0, .int .i64 0, .int .i64 0, .slice none 0 0, .slice none 0 0] 62 := hb36
        have he38 : Ext w w34 := Ext.trans he15 hn35x
        have hb17 := Box.ext hb17 hn35x
        have hs31 := slRep.old hs31 hn35x (by omega)
        have hs32 := slRep.old hs32 hn35x (by omega)
        have hz39 := (hn35x).size
        have hlo37 : w.heap.size ≤ b33 := by rw [hn35e]; exact (he15).size
        refine TL.yld rfl rfl (yld_assign rfl rfl) ?_
        refine TL.eff rfl rfl (eff_store rfl rfl rfl hb36 cn_62 (allc_cons rfl (allc_cons rfl (allc_cons rfl (allc_cons rfl (allc_cons (slRep.one hs31) (allc_cons (slRep.one hs32) allc_nil)))))) rfl) ?_
        rintro _ w40 ⟨hu41, hb42⟩
        have he43 : Ext w w40 := Below.trans he38 (Upd.below hu41 (by omega))
        have hb17 := Box.upd hb17 hu41 (by omega)
        have hs31 := slRep.upd hs31 hu41 (by omega)
        have hs32 := slRep.upd hs32 hu41 (by omega)
        have hz44 := (hu41).size
        have hb36 : Box w40 b33 [.int .i64 x21.Kind, .int .i64 x21.From, .int .i64 x21.To, .int .i64 x21.Sense, v29, v30] 62 := hb42
        refine TL.done ?_
        refine NX.seq ?_
        refine WC.seq ?_
        refine WC.region ?_
        refine TL.yld rfl rfl (yld_loadN (us := [.string a0_c.Name, .int .i64 a0_c.Kind, v1, v3, v5, .int .i64 a0_c.Leak, .int .i64 a0_c.Energy]) rfl ag_32 rfl (Box.cells hb17) cn_32) ?_
        refine TL.yld rfl rfl (yld_loadN (us := [.int .i64 x21.Kind, .int .i64 x21.From, .int .i64 x21.To, .int .i64 x21.Sense, v29, v30]) rfl ag_62 rfl (Box.cells hb36) cn_62) ?_
        obtain ⟨r45, hr46, hF⟩ := bsome hF
        refine TL.eff rfl rfl (eff_call rfl gf_50 rfl (W_impl_Cell_isArc hr46 ((slRep.old ha2 he43 (Nat.le_refl _)).wide (Nat.le_refl _) (he43).size) ((slRep.old ha4 he43 (Nat.le_refl _)).wide (Nat.le_refl _) (he43).size) ((slRep.old ha6 he43 (Nat.le_refl _)).wide (Nat.le_refl _) (he43).size) (hs31.wide (Nat.zero_le _) (by omega)) (hs32.wide (Nat.zero_le _) (by omega)))) ?_
        rintro _ w47 ⟨rfl, hx48⟩
        have he49 : Ext w w47 := Ext.trans he43 hx48
        have hb17 := Box.ext hb17 hx48
        have hb36 := Box.ext hb36 hx48
        have hs31 := slRep.old hs31 hx48 (by omega)
        have hs32 := slRep.old hs32 hx48 (by omega)
        have hz50 := (hx48).size
        refine TL.yld rfl rfl (yld_not rfl rfl) ?_
        refine TL.yld rfl rfl (yld_move rfl rfl) ?_
        obtain ⟨c51, hb52, hF⟩ := bsome hF
        refine TL.cut 7 [(1, .pointer (some ⟨b7, 0, none⟩)), (6, v3), (7, .int .i64 ((a0_c.Arcs.length : Int))), (8, .int .i64 i16), (24, .bool c51)] (fun w' => Ext w47 w') ?_ ?_
        · rcases Bool.eq_false_or_eq_true (!r45) with hg53 | hg53
          ·
            rw [hg53] at hb52; simp only [cond_true, cond_false] at hb52
            refine TL.gnu (j := 4) (t := 17) rfl rfl rfl hg53 rfl ?_
            refine TL.gnu (j := 4) (t := 17) rfl rfl rfl hg53 rfl ?_
            refine TL.gnu (j := 4) (t := 17) rfl rfl rfl hg53 rfl ?_
            refine TL.gnu (j := 4) (t := 17) rfl rfl rfl hg53 rfl ?_
            refine TL.gnu (j := 4) (t := 17) rfl rfl rfl hg53 rfl ?_
            refine TL.gnu (j := 4) (t := 17) rfl rfl rfl hg53 rfl ?_
            obtain rfl := Option.some.inj hb52
            refine TL.yld rfl rfl (yld_pick_t rfl rfl hg53 rfl) ?_
            exact TL.nil fun a h => ⟨h.weaken ⟨rfl, rfl, rfl, rfl, rfl, trivial⟩, Ext.refl _⟩
          ·
            rw [hg53] at hb52; simp only [cond_true, cond_false] at hb52
            replace hF := hb52
            refine TL.gy (j := 4) (t := 17) rfl rfl rfl hg53 rfl (yld_fieldAddr rfl fo_32_3 rfl) ?_
            refine TL.gy (j := 4) (t := 17) rfl rfl rfl hg53 rfl (yld_load1 3 rfl ag_30 rfl (Box.cells hb17) rfl rfl) ?_
            refine TL.gy (j := 4) (t := 17) rfl rfl rfl hg53 rfl (yld_move rfl rfl) ?_
            obtain ⟨z54, hz55, hF⟩ := bsome hF
            refine TL.yeg (j := 4) (t := 17) rfl rfl rfl hg53 rfl (ye_slice_to (c := C_Arc) rfl Tryz.underlying30 cn_62 rfl rfl (slRep.old ha4 he49 (Nat.le_refl _)) hz55) ?_
            rintro v56 hs57
            refine TL.gy (j := 4) (t := 17) rfl rfl rfl hg53 rfl (yld_makeFunc rfl rfl rfl) ?_
            obtain ⟨r58, hr59, hF⟩ := bsome hF
            refine TL.ge (j := 4) (t := 17) rfl rfl rfl hg53 rfl (eff_call rfl gf_51 rfl (W_slices_ContainsFunc_impl_Arc_impl_Arc_on_impl_Cell_areArcs_1 hr59 (hs57.wide (Nat.zero_le _) (by omega)) hb36 (hs31.wide (Nat.zero_le _) (by omega)) (hs32.wide (Nat.zero_le _) (by omega)))) ?_
            rintro _ w60 ⟨rfl, hx61⟩
            have hb17 := Box.ext hb17 hx61
            have hz63 := (hx61).size
            obtain rfl := Option.some.inj hF
            refine TL.yld rfl rfl (yld_pick_f rfl rfl hg53 rfl) ?_
            exact TL.nil fun a h => ⟨h.weaken ⟨rfl, rfl, rfl, rfl, rfl, trivial⟩, hx61⟩
        intro w64 hx65
        have he66 : Ext w w64 := Ext.trans he49 hx65
        have hb17 := Box.ext hb17 hx65
        have hz67 := (hx65).size
        refine TL.done ?_
        refine NX.seq ?_
        refine WC.cond rfl ?_ ?_
        · intro hc68
          replace hF := bif_t hc68 hF
          refine WC.seq ?_
          refine WC.region ?_
          refine TL.yld rfl rfl (yld_assign rfl rfl) ?_
          refine TL.done ?_
          refine NX.seq ?_
          refine WC.ret' ?_
          refine NX.blk_r ?_
          refine NX.then_r ?_
          refine NX.then_r ?_
          refine NX.blk_r ?_
          refine NX.then_r ?_
          obtain rfl := Option.some.inj hF
          exact NX.end (rs := [.tmp 2]) (vs := [.bool false]) rfl ⟨rfl, trivial⟩ ⟨_, rfl, rfl, he66⟩
        · intro hc69
          replace hF := bif_f hc69 hF
          refine WC.skip' ?_
          refine NX.blk_n ?_
          refine NX.seq ?_
          refine WC.region ?_
          refine TL.yld rfl rfl (yld_add rfl rfl rfl) ?_
          refine TL.yld rfl rfl (yld_move rfl rfl) ?_
          refine TL.done ?_
          refine NX.then_n ?_
          intro a hK; exact ⟨m18, Nat.lt_succ_self m18, (IntKind.wrap IntKind.i64 (i16 + 1)), hK.weaken ⟨rfl, rfl, rfl, rfl, trivial⟩, he66, (by omega), hb17, hF⟩
      · intro hc70
        replace hF := bif_f hc70 hF
        refine WC.exit' ?_
        refine NX.then_e ?_
        refine NX.then_e ?_
        refine NX.blk_hit ?_
        refine NX.seq ?_
        refine WC.seq ?_
        refine WC.region ?_
        refine TL.yld rfl rfl (yld_fieldAddr rfl fo_32_3 rfl) ?_
        refine TL.yld rfl rfl (yld_load1 3 rfl ag_30 rfl (Box.cells hb17) rfl rfl) ?_
        refine TL.yld rfl rfl (ye_len (c := C_Arc) rfl Tryz.underlying30 rfl (slRep.old ha4 he15 (Nat.le_refl _))) ?_
        refine TL.yld rfl rfl (yld_leq rfl rfl rfl) ?_
        refine TL.yld rfl rfl (yld_assign rfl rfl) ?_
        refine TL.done ?_
        refine NX.seq ?_
        refine WC.ret' ?_
        obtain rfl := Option.some.inj hF
        exact NX.end (rs := [.tmp 2]) (vs := [.bool (decide ((a0_c.Arcs.length : Int) ≤ 8))]) rfl ⟨rfl, trivial⟩ ⟨_, rfl, rfl, he15⟩

-- (loop.example/g00861/impl.Cell).has$1
def F_impl_Cell_has_1 (n : Nat) (a0_a : S_Arc) (a1_c : Int) : Option Bool := (some ((a0_a.Kind == a1_c)))
set_option maxHeartbeats 40000000 in
theorem W_impl_Cell_has_1 {n : Nat} {a0_a : S_Arc} {a1_c : Int} {r : Bool} {w : World} {v1 : Value} {v3 : Value} {b1_ : Nat} (hF : F_impl_Cell_has_1 n a0_a a1_c = some r) (ha2 : slRep C_Table w (Iv 0 w.heap.size) a0_a.Delay v1) (ha4 : slRep C_Table w (Iv 0 w.heap.size) a0_a.Slew v3) (hb5 : Box w b1_ [.int .i64 a1_c] 2) :
    Calls Tryz.prog 74 [.agg #[.int .i64 a0_a.Kind, .int .i64 a0_a.From, .int .i64 a0_a.To, .int .i64 a0_a.Sense, v1, v3], .pointer (some ⟨b1_, 0, none⟩)].toArray w (Ret fun u w2 => u = .bool r ∧ Ext w w2) := by
  refine calls_of Tryz.func74 rfl Tryz.ntmps74 ?_
  have he0 : Ext w w := Ext.refl w
  have := Box.lt hb5
  unfold F_impl_Cell_has_1 at hF
  refine WC.seq ?_
  refine WC.region ?_
  refine TL.eff rfl rfl (eff_box rfl rfl) ?_
  rintro _ w7 ⟨b6, rfl, hn8⟩
  obtain ⟨hn8e, hn8s, hn8x, hb9⟩ := hn8
  have hb9 : Box w7 b6 [.int .i64 a0_a.Kind, .int .i64 a0_a.From, .int .i64 a0_a.To, .int .i64 a0_a.Sense, v1, v3] 62 := hb9
  have he11 : Ext w w7 := Ext.trans he0 hn8x
  have hb5 := Box.ext hb5 hn8x
  have hz12 := (hn8x).size
  have hlo10 : w.heap.size ≤ b6 := by rw [hn8e]; exact (he0).size
  refine TL.yld rfl rfl (yld_assign rfl rfl) ?_
  refine TL.done ?_
  refine NX.seq ?_
  refine WC.seq ?_
  refine WC.region ?_
  refine TL.yld rfl rfl (yld_fieldAddr rfl fo_62_0 rfl) ?_
  refine TL.yld rfl rfl (yld_load1 0 rfl ag_2 rfl (Box.cells hb9) rfl rfl) ?_
  refine TL.yld rfl rfl (yld_load1 0 rfl ag_2 rfl (Box.cells hb5) rfl rfl) ?_
  refine TL.yld rfl rfl (yld_eql rfl rfl rfl) ?_
  refine TL.yld rfl rfl (yld_assign rfl rfl) ?_
  refine TL.done ?_
  refine NX.seq ?_
  refine WC.ret' ?_
  obtain rfl := Option.some.inj hF
  exact NX.end (rs := [.tmp 3]) (vs := [.bool ((a0_a.Kind == a1_c))]) rfl ⟨rfl, trivial⟩ ⟨_, rfl, rfl, he11⟩

-- slices.IndexFunc[[]loop.example/g00861/impl.Arc,loop.example/g00861/impl.Arc]
def F_slices_IndexFunc_impl_Arc_impl_Arc_on_impl_Cell_has_1_L1 (n : Nat) (a0_s : List S_Arc) (a1c0_c : Int) (k0 : Int → Option Int) : Nat → Int → Option Int
  | 0 => fun _ => none
  | m + 1 => fun i6 => (bif decide (i6 < (a0_s.length : Int)) then (Option.bind (getI a0_s i6) fun x9 => (Option.bind (F_impl_Cell_has_1 n x9 a1c0_c) fun r21 => (bif r21 then (some i6) else (F_slices_IndexFunc_impl_Arc_impl_Arc_on_impl_Cell_has_1_L1 n a0_s a1c0_c k0 m (IntKind.wrap IntKind.i64 (i6 + 1)))))) else (k0 i6))
theorem F_slices_IndexFunc_impl_Arc_impl_Arc_on_impl_Cell_has_1_L1_z (n : Nat) (a0_s : List S_Arc) (a1c0_c : Int) (k0 : Int → Option Int) (i6 : Int) : F_slices_IndexFunc_impl_Arc_impl_Arc_on_impl_Cell_has_1_L1 n a0_s a1c0_c k0 0 i6 = none := rfl
theorem F_slices_IndexFunc_impl_Arc_impl_Arc_on_impl_Cell_has_1_L1_s (m : Nat) (n : Nat) (a0_s : List S_Arc) (a1c0_c : Int) (k0 : Int → Option Int) (i6 : Int) : F_slices_IndexFunc_impl_Arc_impl_Arc_on_impl_Cell_has_1_L1 n a0_s a1c0_c k0 (m + 1) i6 = (bif decide (i6 < (a0_s.length : Int)) then (Option.bind (getI a0_s i6) fun x9 => (Option.bind (F_impl_Cell_has_1 n x9 a1c0_c) fun r21 => (bif r21 then (some i6) else (F_slices_IndexFunc_impl_Arc_impl_Arc_on_impl_Cell_has_1_L1 n a0_s a1c0_c k0 m (IntKind.wrap IntKind.i64 (i6 + 1)))))) else (k0 i6)) := rfl

def F_slices_IndexFunc_impl_Arc_impl_Arc_on_impl_Cell_has_1 (n : Nat) (a0_s : List S_Arc) (a1c0_c : Int) : Option Int := (F_slices_IndexFunc_impl_Arc_impl_Arc_on_impl_Cell_has_1_L1 n a0_s a1c0_c (fun i6 => (some (-1))) n 0)
set_option maxHeartbeats 40000000 in
theorem W_slices_IndexFunc_impl_Arc_impl_Arc_on_impl_Cell_has_1 {n : Nat} {a0_s : List S_Arc} {a1c0_c : Int} {r : Int} {w : World} {v1 : Value} {b1c0_ : Nat} (hF : F_slices_IndexFunc_impl_Arc_impl_Arc_on_impl_Cell_has_1 n a0_s a1c0_c = some r) (ha2 : slRep C_Arc w (Iv 0 w.heap.size) a0_s v1) (hb3 : Box w b1c0_ [.int .i64 a1c0_c] 2) :
    Calls Tryz.prog 71 [v1, .func (.func 74) #[] [.pointer (some ⟨b1c0_, 0, none⟩)].toArray].toArray w (Ret fun u w2 => u = .int .i64 r ∧ Ext w w2) := by
  refine calls_of Tryz.func71 rfl Tryz.ntmps71 ?_
  have he0 : Ext w w := Ext.refl w
  have := Box.lt hb3
  unfold F_slices_IndexFunc_impl_Arc_impl_Arc_on_impl_Cell_has_1 at hF
  refine WC.seq ?_
  refine WC.region ?_
  refine TL.yld rfl rfl (yld_assign rfl rfl) ?_
  refine TL.done ?_
  refine NX.seq ?_
  refine WC.seq ?_
  refine WC.seq ?_
  refine WC.region ?_
  refine TL.yld rfl rfl (yld_move rfl rfl) ?_
  refine TL.yld rfl rfl (ye_len (c := C_Arc) rfl Tryz.underlying30 rfl (slRep.old ha2 he0 (Nat.le_refl _))) ?_
  refine TL.yld rfl rfl (yld_move rfl rfl) ?_
  refine TL.done ?_
  refine NX.seq ?_
  refine WC.block ?_
  refine WC.loop (fun m8 a wl => ∃ (i6 : Int), Kn 19 [(0, v1), (1, .func (.func 74) #[] [.pointer (some ⟨b1c0_, 0, none⟩)].toArray), (7, .int .i64 ((a0_s.length : Int))), (8, .int .i64 i6)] a ∧ Ext w wl ∧ w.heap.size ≤ wl.heap.size ∧ Box wl b1c0_ [.int .i64 a1c0_c] 2 ∧ F_slices_IndexFunc_impl_Arc_impl_Arc_on_impl_Cell_has_1_L1 n a0_s a1c0_c (fun i6 => (some (-1))) m8 i6 = some r) n ?_ ?_
  · intro a hK; exact ⟨0, hK.weaken ⟨rfl, rfl, rfl, rfl, trivial⟩, he0, Nat.le_refl _, hb3, hF⟩
  · rintro m8 a w4 ⟨i6, hK, he5, hz9, hb7, hF⟩
    revert hK; revert a; refine (?_ : WC _ _ _ _ _ _)
    cases m8 with
    | zero => rw [F_slices_IndexFunc_impl_Arc_impl_Arc_on_impl_Cell_has_1_L1_z] at hF; cases hF
    | succ m8 =>
      rw [F_slices_IndexFunc_impl_Arc_impl_Arc_on_impl_Cell_has_1_L1_s] at hF
      refine WC.seq ?_
      refine WC.region ?_
      refine TL.yld rfl rfl (yld_lss rfl rfl rfl) ?_
      refine TL.done ?_
      refine NX.seq ?_
      refine WC.seq ?_
      refine WC.cond rfl ?_ ?_
      · intro hc10
        replace hF := bif_t hc10 hF
        refine WC.skip' ?_
        refine NX.seq ?_
        refine WC.seq ?_
        refine WC.block ?_
        refine WC.seq ?_
        refine WC.region ?_
        refine TL.yld rfl rfl (yld_move rfl rfl) ?_
        refine TL.yld rfl rfl (yld_assign rfl rfl) ?_
        refine TL.done ?_
        refine NX.seq ?_
        refine WC.seq ?_
        refine WC.region ?_
        refine TL.yld rfl rfl (yld_move rfl rfl) ?_
        refine TL.yld rfl rfl (yld_move rfl rfl) ?_
        refine TL.yld rfl rfl (yld_move rfl rfl) ?_
        obtain ⟨x11, hy12, hF⟩ := bsome hF
        refine TL.ye rfl rfl (ye_index (c := C_Arc) rfl Tryz.underlying30 cn_62 rfl rfl (slRep.old ha2 he5 (Nat.le_refl _)) hy12) ?_
        rintro _ ⟨b13, o14, us15, rfl, hib18, hr16, hcl17⟩
        have hib18 : 0 ≤ b13 ∧ b13 < w.heap.size := ⟨hib18.1, by have := hib18.2; omega⟩
        obtain ⟨v19, v20, rfl, hs21, hs22⟩ := C_Arc_open hr16
        refine TL.yld rfl rfl (yld_loadN (us := [.int .i64 x11.Kind, .int .i64 x11.From, .int .i64 x11.To, .int .i64 x11.Sense, v19, v20]) rfl ag_62 rfl hcl17 cn_62) ?_
        obtain ⟨r23, hr24, hF⟩ := bsome hF
        refine TL.eff rfl rfl (eff_callv rfl gf_74 rfl rfl (W_impl_Cell_has_1 hr24 (hs21.wide (Nat.zero_le _) (by omega)) (hs22.wide (Nat.zero_le _) (by omega)) hb7)) ?_
        rintro _ w25 ⟨rfl, hx26⟩
        have he27 : Ext w w25 := Ext.trans he5 hx26
        have hb7 := Box.ext hb7 hx26
        have hz28 := (hx26).size
        refine TL.done ?_
        refine NX.seq ?_
        refine WC.cond rfl ?_ ?_
        · intro hc29
          replace hF := bif_t hc29 hF
          refine WC.seq ?_
          refine WC.region ?_
          refine TL.yld rfl rfl (yld_move rfl rfl) ?_
          refine TL.yld rfl rfl (yld_assign rfl rfl) ?_
          refine TL.done ?_
          refine NX.seq ?_
          refine WC.ret' ?_
          refine NX.blk_r ?_
          refine NX.then_r ?_
          refine NX.then_r ?_
          refine NX.blk_r ?_
          refine NX.then_r ?_
          obtain rfl := Option.some.inj hF
          exact NX.end (rs := [.tmp 4]) (vs := [.int .i64 i6]) rfl ⟨rfl, trivial⟩ ⟨_, rfl, rfl, he27⟩
        · intro hc30
          replace hF := bif_f hc30 hF
          refine WC.skip' ?_
          refine NX.blk_n ?_
          refine NX.seq ?_
          refine WC.region ?_
          refine TL.yld rfl rfl (yld_add rfl rfl rfl) ?_
          refine TL.yld rfl rfl (yld_move rfl rfl) ?_
          refine TL.done ?_
          refine NX.then_n ?_
          intro a hK; exact ⟨m8, Nat.lt_succ_self m8, (IntKind.wrap IntKind.i64 (i6 + 1)), hK.weaken ⟨rfl, rfl, rfl, rfl, trivial⟩, he27, (by omega), hb7, hF⟩
      · intro hc31
        replace hF := bif_f hc31 hF
        refine WC.exit' ?_
        refine NX.then_e ?_
        refine NX.then_e ?_
        refine NX.blk_hit ?_
        refine NX.seq ?_
        refine WC.seq ?_
        refine WC.region ?_
        refine TL.yld rfl rfl (yld_assign rfl rfl) ?_
        refine TL.done ?_
        refine NX.seq ?_
        refine WC.ret' ?_
        obtain rfl := Option.some.inj hF
        exact NX.end (rs := [.tmp 4]) (vs := [.int .i64 (-1)]) rfl ⟨rfl, trivial⟩ ⟨_, rfl, rfl, he5⟩

-- slices.ContainsFunc[[]loop.example/g00861/impl.Arc,loop.example/g00861/impl.Arc]
def F_slices_ContainsFunc_impl_Arc_impl_Arc_on_impl_Cell_has_1 (n : Nat) (a0_s : List S_Arc) (a1c0_c : Int) : Option Bool := (Option.bind (F_slices_IndexFunc_impl_Arc_impl_Arc_on_impl_Cell_has_1 n a0_s a1c0_c) fun r4 => (some (decide (r4 ≥ 0))))
set_option maxHeartbeats 40000000 in
theorem W_slices_ContainsFunc_impl_Arc_impl_Arc_on_impl_Cell_has_1 {n : Nat} {a0_s : List S_Arc} {a1c0_c : Int} {r : Bool} {w : World} {v1 : Value} {b1c0_ : Nat} (hF : F_slices_ContainsFunc_impl_Arc_impl_Arc_on_impl_Cell_has_1 n a0_s a1c0_c = some r) (ha2 : slRep C_Arc w (Iv 0 w.heap.size) a0_s v1) (hb3 : Box w b1c0_ [.int .i64 a1c0_c] 2) :
    Calls Tryz.prog 51 [v1, .func (.func 74) #[] [.pointer (some ⟨b1c0_, 0, none⟩)].toArray].toArray w (Ret fun u w2 => u = .bool r ∧ Ext w w2) := by
  refine calls_of Tryz.func51 rfl Tryz.ntmps51 ?_
  have he0 : Ext w w := Ext.refl w
  have := Box.lt hb3
  unfold F_slices_ContainsFunc_impl_Arc_impl_Arc_on_impl_Cell_has_1 at hF
  refine WC.seq ?_
  refine WC.region ?_
  refine TL.yld rfl rfl (yld_assign rfl rfl) ?_
  refine TL.done ?_
  refine NX.seq ?_
  refine WC.seq ?_
  refine WC.region ?_
  refine TL.yld rfl rfl (yld_move rfl rfl) ?_
  refine TL.yld rfl rfl (yld_move rfl rfl) ?_
  obtain ⟨r4, hr5, hF⟩ := bsome hF
  refine TL.eff rfl rfl (eff_call rfl gf_71 rfl (W_slices_IndexFunc_impl_Arc_impl_Arc_on_impl_Cell_has_1 hr5 ((slRep.old ha2 he0 (Nat.le_refl _)).wide (Nat.le_refl _) (he0).size) hb3)) ?_
  rintro _ w6 ⟨rfl, hx7⟩
  have he8 : Ext w w6 := Ext.trans he0 hx7
  have hz9 := (hx7).size
  refine TL.yld rfl rfl (yld_geq rfl rfl rfl) ?_
  refine TL.yld rfl rfl (yld_assign rfl rfl) ?_
  refine TL.done ?_
  refine NX.seq ?_
  refine WC.ret' ?_
  obtain rfl := Option.some.inj hF
  exact NX.end (rs := [.tmp 4]) (vs := [.bool (decide (r4 ≥ 0))]) rfl ⟨rfl, trivial⟩ ⟨_, rfl, rfl, he8⟩

-- (loop.example/g00861/impl.Cell).has
def F_impl_Cell_has (n : Nat) (a0_c : S_Cell) (a1_kind : Int) : Option Bool := (Option.bind (F_slices_ContainsFunc_impl_Arc_impl_Arc_on_impl_Cell_has_1 n a0_c.Arcs a1_kind) fun r21 => (some r21))
set_option maxHeartbeats 40000000 in
theorem W_impl_Cell_has {n : Nat} {a0_c : S_Cell} {a1_kind : Int} {r : Bool} {w : World} {v1 : Value} {v3 : Value} {v5 : Value} (hF : F_impl_Cell_has n a0_c a1_kind = some r) (ha2 : slRep C_Pin w (Iv 0 w.heap.size) a0_c.Pins v1) (ha4 : slRep C_Arc w (Iv 0 w.heap.size) a0_c.Arcs v3) (ha6 : slRep (cInt .i64) w (Iv 0 w.heap.size) a0_c.Truth v5) :
    Calls Tryz.prog 54 [.agg #[.string a0_c.Name, .int .i64 a0_c.Kind, v1, v3, v5, .int .i64 a0_c.Leak, .int .i64 a0_c.Energy], .int .i64 a1_kind].toArray w (Ret fun u w2 => u = .bool r ∧ Ext w w2) := by
  refine calls_of Tryz.func54 rfl Tryz.ntmps54 ?_
  have he0 : Ext w w := Ext.refl w
  unfold F_impl_Cell_has at hF
  refine WC.seq ?_
  refine WC.region ?_
  refine TL.eff rfl rfl (eff_box rfl rfl) ?_
  rintro _ w8 ⟨b7, rfl, hn9⟩
  obtain ⟨hn9e, hn9s, hn9x, hb10⟩ := hn9
  have hb10 : Box w8 b7 [.string a0_c.Name, .int .i64 a0_c.Kind, v1, v3, v5, .int .i64 a0_c.Leak, .int .i64 a0_c.Energy] 32 := hb10
  have he12 : Ext w w8 := Ext.trans he0 hn9x
  have hz13 := (hn9x).size
  have hlo11 : w.heap.size ≤ b7 := by rw [hn9e]; exact (he0).size
  refine TL.eff rfl rfl (eff_box rfl rfl) ?_
  rintro _ w15 ⟨b14, rfl, hn16⟩
  obtain ⟨hn16e, hn16s, hn16x, hb17⟩ := hn16
  have hb17 : Box w15 b14 [.int .i64 a1_kind] 2 := hb17
  have he19 : Ext w w15 := Ext.trans he12 hn16x
  have hb10 := Box.ext hb10 hn16x
  have hz20 := (hn16x).size
  have hlo18 : w.heap.size ≤ b14 := by rw [hn16e]; exact (he12).size
  refine TL.yld rfl rfl (yld_assign rfl rfl) ?_
  refine TL.done ?_
  refine NX.seq ?_
  refine WC.seq ?_
  refine WC.region ?_
  refine TL.yld rfl rfl (yld_fieldAddr rfl fo_32_3 rfl) ?_
  refine TL.yld rfl rfl (yld_load1 3 rfl ag_30 rfl (Box.cells hb10) rfl rfl) ?_
  refine TL.yld rfl rfl (yld_makeFunc rfl rfl rfl) ?_
  obtain ⟨r21, hr22, hF⟩ := bsome hF
  refine TL.eff rfl rfl (eff_call rfl gf_51 rfl (W_slices_ContainsFunc_impl_Arc_impl_Arc_on_impl_Cell_has_1 hr22 ((slRep.old ha4 he19 (Nat.le_refl _)).wide (Nat.le_refl _) (he19).size) hb17)) ?_
  rintro _ w23 ⟨rfl, hx24⟩
  have he25 : Ext w w23 := Ext.trans he19 hx24
  have hz26 := (hx24).size
  refine TL.yld rfl rfl (yld_assign rfl rfl) ?_
  refine TL.done ?_
  refine NX.seq ?_
  refine WC.ret' ?_
  obtain rfl := Option.some.inj hF
  exact NX.end (rs := [.tmp 4]) (vs := [.bool r21]) rfl ⟨rfl, trivial⟩ ⟨_, rfl, rfl, he25⟩

-- (loop.example/g00861/impl.Cell).isOfKind
def F_impl_Cell_isOfKind_L1 (a0_c : S_Cell) (k0 : Int → Int → Option Bool) : Nat → Int → Int → Option Bool
  | 0 => fun _ _ => none
  | m + 1 => fun i16 i17 => (bif decide (i17 < (a0_c.Pins.length : Int)) then (Option.bind (getI a0_c.Pins i17) fun x20 => (bif x20.Clock then (F_impl_Cell_isOfKind_L1 a0_c k0 m (IntKind.wrap IntKind.i64 (i16 + 1)) (IntKind.wrap IntKind.i64 (i17 + 1))) else (F_impl_Cell_isOfKind_L1 a0_c k0 m i16 (IntKind.wrap IntKind.i64 (i17 + 1))))) else (k0 i16 i17))
theorem F_impl_Cell_isOfKind_L1_z (a0_c : S_Cell) (k0 : Int → Int → Option Bool) (i16 : Int) (i17 : Int) : F_impl_Cell_isOfKind_L1 a0_c k0 0 i16 i17 = none := rfl
theorem F_impl_Cell_isOfKind_L1_s (m : Nat) (a0_c : S_Cell) (k0 : Int → Int → Option Bool) (i16 : Int) (i17 : Int) : F_impl_Cell_isOfKind_L1 a0_c k0 (m + 1) i16 i17 = (bif decide (i17 < (a0_c.Pins.length : Int)) then (Option.bind (getI a0_c.Pins i17) fun x20 => (bif x20.Clock then (F_impl_Cell_isOfKind_L1 a0_c k0 m (IntKind.wrap IntKind.i64 (i16 + 1)) (IntKind.wrap IntKind.i64 (i17 + 1))) else (F_impl_Cell_isOfKind_L1 a0_c k0 m i16 (IntKind.wrap IntKind.i64 (i17 + 1))))) else (k0 i16 i17)) := rfl

def F_impl_Cell_isOfKind (n : Nat) (a0_c : S_Cell) : Option Bool := (F_impl_Cell_isOfKind_L1 a0_c (fun i16 i17 => (bif (a0_c.Kind == 1) then (Option.bind (bif (i16 == 0) then (Option.bind (F_impl_Cell_output n a0_c) fun r20 => (bif decide (r20 < 0) then none else (some ((((a0_c.Truth.length : Int)) == (shlK .i64 1 r20)))))) else (some false)) fun c20 => (Option.bind (bif c20 then (Option.bind (F_impl_areWithin n a0_c.Truth 0 1) fun r26 => (some r26)) else (some false)) fun c26 => (some c26))) else (bif (a0_c.Kind == 2) then (Option.bind (bif (((i16 == 1)) && ((((a0_c.Truth.length : Int)) == 0))) then (Option.bind (F_impl_Cell_has n a0_c 1) fun r38 => (some (!r38))) else (some false)) fun c38 => (Option.bind (bif c38 then (Option.bind (F_impl_Cell_has n a0_c 2) fun r43 => (Option.bind (F_impl_Cell_has n a0_c 3) fun r45 => (some ((r43 != r45))))) else (some false)) fun c43 => (some c43))) else (bif (a0_c.Kind == 3) then (Option.bind (bif (((i16 == 1)) && ((((a0_c.Truth.length : Int)) == 0))) then (Option.bind (F_impl_Cell_has n a0_c 1) fun r61 => (some r61)) else (some false)) fun c61 => (Option.bind (bif c61 then (Option.bind (F_impl_Cell_has n a0_c 2) fun r74 => (some r74)) else (some false)) fun c74 => (Option.bind (bif c74 then (Option.bind (F_impl_Cell_has n a0_c 3) fun r87 => (some (!r87))) else (some false)) fun c87 => (some c87)))) else (some false))))) n 0 0)
set_option maxHeartbeats 40000000 in
theorem W_impl_Cell_isOfKind {n : Nat} {a0_c : S_Cell} {r : Bool} {w : World} {v1 : Value} {v3 : Value} {v5 : Value} (hF : F_impl_Cell_isOfKind n a0_c = some r) (ha2 : slRep C_Pin w (Iv 0 w.heap.size) a0_c.Pins v1) (ha4 : slRep C_Arc w (Iv 0 w.heap.size) a0_c.Arcs v3) (ha6 : slRep (cInt .i64) w (Iv 0 w.heap.size) a0_c.Truth v5) :
    Calls Tryz.prog 38 [.agg #[.string a0_c.Name, .int .i64 a0_c.Kind, v1, v3, v5, .int .i64 a0_c.Leak, .int .i64 a0_c.Energy]].toArray w (Ret fun u w2 => u = .bool r ∧ Ext w w2) := by
  refine calls_of Tryz.func38 rfl Tryz.ntmps38 ?_
  have he0 : Ext w w := Ext.refl w
  unfold F_impl_Cell_isOfKind at hF
  refine WC.seq ?_
  refine WC.region ?_
  refine TL.eff rfl rfl (eff_box rfl rfl) ?_
  rintro _ w8 ⟨b7, rfl, hn9⟩
  obtain ⟨hn9e, hn9s, hn9x, hb10⟩ := hn9
  have hb10 : Box w8 b7 [.string a0_c.Name, .int .i64 a0_c.Kind, v1, v3, v5, .int .i64 a0_c.Leak, .int .i64 a0_c.Energy] 32 := hb10
  have he12 : Ext w w8 := Ext.trans he0 hn9x
  have hz13 := (hn9x).size
  have hlo11 : w.heap.size ≤ b7 := by rw [hn9e]; exact (he0).size
  refine TL.yld rfl rfl (yld_assign rfl rfl) ?_
  refine TL.done ?_
  refine NX.seq ?_
  refine WC.seq ?_
  refine WC.region ?_
  refine TL.yld rfl rfl (yld_assign rfl rfl) ?_
  refine TL.done ?_
  refine NX.seq ?_
  refine WC.seq ?_
  refine WC.seq ?_
  refine WC.region ?_
  refine TL.yld rfl rfl (yld_fieldAddr rfl fo_32_2 rfl) ?_
  refine TL.yld rfl rfl (yld_load1 2 rfl ag_29 rfl (Box.cells hb10) rfl rfl) ?_
  refine TL.yld rfl rfl (ye_len (c := C_Pin) rfl Tryz.underlying29 rfl (slRep.old ha2 he12 (Nat.le_refl _))) ?_
  refine TL.yld rfl rfl (yld_move rfl rfl) ?_
  refine TL.done ?_
  refine NX.seq ?_
  refine WC.block ?_
  refine WC.loop (fun m19 a wl => ∃ (i16 : Int) (i17 : Int), Kn 83 [(1, .pointer (some ⟨b7, 0, none⟩)), (3, .int .i64 i16), (7, v1), (8, .int .i64 ((a0_c.Pins.length : Int))), (9, .int .i64 i17)] a ∧ Ext w wl ∧ w8.heap.size ≤ wl.heap.size ∧ Box wl b7 [.string a0_c.Name, .int .i64 a0_c.Kind, v1, v3, v5, .int .i64 a0_c.Leak, .int .i64 a0_c.Energy] 32 ∧ F_impl_Cell_isOfKind_L1 a0_c (fun i16 i17 => (bif (a0_c.Kind == 1) then (Option.bind (bif (i16 == 0) then (Option.bind (F_impl_Cell_output n a0_c) fun r20 => (bif decide (r20 < 0) then none else (some ((((a0_c.Truth.length : Int)) == (shlK .i64 1 r20)))))) else (some false)) fun c20 => (Option.bind (bif c20 then (Option.bind (F_impl_areWithin n a0_c.Truth 0 1) fun r26 => (some r26)) else (some false)) fun c26 => (some c26))) else (bif (a0_c.Kind == 2) then (Option.bind (bif (((i16 == 1)) && ((((a0_c.Truth.length : Int)) == 0))) then (Option.bind (F_impl_Cell_has n a0_c 1) fun r38 => (some (!r38))) else (some false)) fun c38 => (Option.bind (bif c38 then (Option.bind (F_impl_Cell_has n a0_c 2) fun r43 => (Option.bind (F_impl_Cell_has n a0_c 3) fun r45 => (some ((r43 != r45))))) else (some false)) fun c43 => (some c43))) else (bif (a0_c.Kind == 3) then (Option.bind (bif (((i16 == 1)) && ((((a0_c.Truth.length : Int)) == 0))) then (Option.bind (F_impl_Cell_has n a0_c 1) fun r61 => (some r61)) else (some false)) fun c61 => (Option.bind (bif c61 then (Option.bind (F_impl_Cell_has n a0_c 2) fun r74 => (some r74)) else (some false)) fun c74 => (Option.bind (bif c74 then (Option.bind (F_impl_Cell_has n a0_c 3) fun r87 => (some (!r87))) else (some false)) fun c87 => (some c87)))) else (some false))))) m19 i16 i17 = some r) n ?_ ?_
  · intro a hK; exact ⟨0, 0, hK.weaken ⟨rfl, rfl, rfl, rfl, rfl, trivial⟩, he12, Nat.le_refl _, hb10, hF⟩
  · rintro m19 a w14 ⟨i16, i17, hK, he15, hz20, hb18, hF⟩
    revert hK; revert a; refine (?_ : WC _ _ _ _ _ _)
    cases m19 with
    | zero => rw [F_impl_Cell_isOfKind_L1_z] at hF; cases hF
    | succ m19 =>
      rw [F_impl_Cell_isOfKind_L1_s] at hF
      refine WC.seq ?_
      refine WC.region ?_
      refine TL.yld rfl rfl (yld_lss rfl rfl rfl) ?_
      refine TL.done ?_
      refine NX.seq ?_
      refine WC.seq ?_
      refine WC.cond rfl ?_ ?_
      · intro hc21
        replace hF := bif_t hc21 hF
        refine WC.skip' ?_
        refine NX.seq ?_
        refine WC.seq ?_
        refine WC.block ?_
        refine WC.seq ?_
        refine WC.region ?_
        obtain ⟨x22, hy23, hF⟩ := bsome hF
        refine TL.ye rfl rfl (ye_index (c := C_Pin) rfl Tryz.underlying29 cn_67 rfl rfl (slRep.old ha2 he15 (Nat.le_refl _)) hy23) ?_
        rintro _ ⟨b24, o25, us26, rfl, hib29, hr27, hcl28⟩
        have hib29 : 0 ≤ b24 ∧ b24 < w.heap.size := ⟨hib29.1, by have := hib29.2; omega⟩
        obtain rfl := C_Pin_open hr27
        refine TL.yld rfl rfl (yld_loadN (us := [.string x22.Name, .int .i64 x22.Dir, .int .i64 x22.Cap, .bool x22.Clock]) rfl ag_67 rfl hcl28 cn_67) ?_
        refine TL.eff rfl rfl (eff_alloc rfl zn_67) ?_
        rintro _ w31 ⟨b30, rfl, hn32⟩
        obtain ⟨hn32e, hn32s, hn32x, hb33⟩ := hn32
        have hb33 : Box w31 b30 [.string ByteArray.empty, .int .i64 0, .int .i64 0, .bool false] 67 := hb33
        have he35 : Ext w w31 := Ext.trans he15 hn32x
        have hb18 := Box.ext hb18 hn32x
        have hz36 := (hn32x).size
        have hlo34 : w.heap.size ≤ b30 := by rw [hn32e]; exact (he15).size
        refine TL.eff rfl rfl (eff_store rfl rfl rfl hb33 cn_67 rfl rfl) ?_
        rintro _ w37 ⟨hu38, hb39⟩
        have he40 : Ext w w37 := Below.trans he35 (Upd.below hu38 (by omega))
        have hb18 := Box.upd hb18 hu38 (by omega)
        have hz41 := (hu38).size
        have hb33 : Box w37 b30 [.string x22.Name, .int .i64 x22.Dir, .int .i64 x22.Cap, .bool x22.Clock] 67 := hb39
        refine TL.done ?_
        refine NX.seq ?_
        refine WC.seq ?_
        refine WC.region ?_
        refine TL.yld rfl rfl (yld_fieldAddr rfl fo_67_3 rfl) ?_
        refine TL.yld rfl rfl (yld_load1 3 rfl ag_4 rfl (Box.cells hb33) rfl rfl) ?_
        refine TL.done ?_
        refine NX.seq ?_
        refine WC.cond rfl ?_ ?_
        · intro hc42
          replace hF := bif_t hc42 hF
          refine WC.region ?_
          refine TL.yld rfl rfl (yld_move rfl rfl) ?_
          refine TL.yld rfl rfl (yld_add rfl rfl rfl) ?_
          refine TL.yld rfl rfl (yld_assign rfl rfl) ?_
          refine TL.done ?_
          refine NX.blk_n ?_
          refine NX.seq ?_
          refine WC.region ?_
          refine TL.yld rfl rfl (yld_add rfl rfl rfl) ?_
          refine TL.yld rfl rfl (yld_move rfl rfl) ?_
          refine TL.done ?_
          refine NX.then_n ?_
          intro a hK; exact ⟨m19, Nat.lt_succ_self m19, (IntKind.wrap IntKind.i64 (i16 + 1)), (IntKind.wrap IntKind.i64 (i17 + 1)), hK.weaken ⟨rfl, rfl, rfl, rfl, rfl, trivial⟩, he40, (by omega), hb18, hF⟩
        · intro hc43
          replace hF := bif_f hc43 hF
          refine WC.skip' ?_
          refine NX.blk_n ?_
          refine NX.seq ?_
          refine WC.region ?_
          refine TL.yld rfl rfl (yld_add rfl rfl rfl) ?_
          refine TL.yld rfl rfl (yld_move rfl rfl) ?_
          refine TL.done ?_
          refine NX.then_n ?_
          intro a hK; exact ⟨m19, Nat.lt_succ_self m19, i16, (IntKind.wrap IntKind.i64 (i17 + 1)), hK.weaken ⟨rfl, rfl, rfl, rfl, rfl, trivial⟩, he40, (by omega), hb18, hF⟩
      · intro hc44
        replace hF := bif_f hc44 hF
        refine WC.exit' ?_
        refine NX.then_e ?_
        refine NX.then_e ?_
        refine NX.blk_hit ?_
        refine NX.seq ?_
        refine WC.seq ?_
        refine WC.seq ?_
        refine WC.region ?_
        refine TL.yld rfl rfl (yld_fieldAddr rfl fo_32_1 rfl) ?_
        refine TL.yld rfl rfl (yld_load1 1 rfl ag_2 rfl (Box.cells hb18) rfl rfl) ?_
        refine TL.done ?_
        refine NX.seq ?_
        refine WC.block ?_
        refine WC.seq ?_
        refine WC.region ?_
        refine TL.yld rfl rfl (yld_eql rfl rfl rfl) ?_
        refine TL.yld rfl rfl (yld_assign rfl rfl) ?_
        refine TL.done ?_
        refine NX.seq ?_
        refine WC.cond rfl ?_ ?_
        · intro hc45
          replace hF := bif_t hc45 hF
          refine WC.seq ?_
          refine WC.quiet Tryz.hm (by kernel_rfl) ?_
          refine QL.yld rfl rfl (Yld.qui (yld_move rfl rfl)) ?_
          refine QL.yld rfl rfl (Yld.qui (yld_eql rfl rfl rfl)) ?_
          refine QL.yld rfl rfl (Yld.qui (yld_move rfl rfl)) ?_
          obtain ⟨c46, hb47, hF⟩ := bsome hF
          refine QL.cut 8 [(1, .pointer (some ⟨b7, 0, none⟩)), (32, .bool c46)] ?_ ?_
          · rcases Bool.eq_false_or_eq_true ((i16 == 0)) with hg48 | hg48
            ·
              rw [hg48] at hb47; simp only [cond_true, cond_false] at hb47
              replace hF := hb47
              refine QL.gy (j := 2) (t := 24) rfl rfl rfl hg48 rfl (Yld.qui (yld_fieldAddr rfl fo_32_4 rfl)) ?_
              refine QL.gy (j := 2) (t := 24) rfl rfl rfl hg48 rfl (Yld.qui (yld_load1 4 rfl ag_24 rfl (Box.cells hb18) rfl rfl)) ?_
              refine QL.gy (j := 2) (t := 24) rfl rfl rfl hg48 rfl (Yld.qui (ye_len (c := (cInt .i64)) rfl Tryz.underlying24 rfl (slRep.old ha6 he15 (Nat.le_refl _)))) ?_
              refine QL.gy (j := 2) (t := 24) rfl rfl rfl hg48 rfl (Yld.qui (yld_loadN (us := [.string a0_c.Name, .int .i64 a0_c.Kind, v1, v3, v5, .int .i64 a0_c.Leak, .int .i64 a0_c.Energy]) rfl ag_32 rfl (Box.cells hb18) cn_32)) ?_
              obtain ⟨r49, hr50, hF⟩ := bsome hF
              refine QL.gy (j := 2) (t := 24) rfl rfl rfl hg48 rfl (qui_call rfl gf_39 rfl fun w' hw' => W_impl_Cell_output hr50 ((((slRep.old ha2 he15 (Nat.le_refl _)).wide (Nat.le_refl _) (he15).size)).mono (fun k h => ⟨h.1, Nat.lt_of_lt_of_le h.2 (hw').size⟩) (fun k h2 => (hw').block k h2.2)) ((((slRep.old ha4 he15 (Nat.le_refl _)).wide (Nat.le_refl _) (he15).size)).mono (fun k h => ⟨h.1, Nat.lt_of_lt_of_le h.2 (hw').size⟩) (fun k h2 => (hw').block k h2.2)) ((((slRep.old ha6 he15 (Nat.le_refl _)).wide (Nat.le_refl _) (he15).size)).mono (fun k h => ⟨h.1, Nat.lt_of_lt_of_le h.2 (hw').size⟩) (fun k h2 => (hw').block k h2.2))) ?_
              obtain ⟨hn51, hF⟩ := nneg hF
              refine QL.gy (j := 2) (t := 24) rfl rfl rfl hg48 rfl (Yld.qui (yld_shl rfl rfl rfl hn51)) ?_
              refine QL.gy (j := 2) (t := 24) rfl rfl rfl hg48 rfl (Yld.qui (yld_eql rfl rfl rfl)) ?_
              obtain rfl := Option.some.inj hF
              refine QL.yld rfl rfl (Yld.qui (yld_pick_t rfl rfl hg48 rfl)) ?_
              exact QL.nil fun a h => h.weaken ⟨rfl, rfl, trivial⟩
            ·
              rw [hg48] at hb47; simp only [cond_true, cond_false] at hb47
              refine QL.gnu (j := 2) (t := 24) rfl rfl rfl hg48 rfl ?_
              refine QL.gnu (j := 2) (t := 24) rfl rfl rfl hg48 rfl ?_
              refine QL.gnu (j := 2) (t := 24) rfl rfl rfl hg48 rfl ?_
              refine QL.gnu (j := 2) (t := 24) rfl rfl rfl hg48 rfl ?_
              refine QL.gnu (j := 2) (t := 24) rfl rfl rfl hg48 rfl ?_
              refine QL.gnu (j := 2) (t := 24) rfl rfl rfl hg48 rfl ?_
              refine QL.gnu (j := 2) (t := 24) rfl rfl rfl hg48 rfl ?_
              obtain rfl := Option.some.inj hb47
              refine QL.yld rfl rfl (Yld.qui (yld_pick_f rfl rfl hg48 rfl)) ?_
              exact QL.nil fun a h => h.weaken ⟨rfl, rfl, trivial⟩
          refine QL.yld rfl rfl (Yld.qui (yld_move rfl rfl)) ?_
          obtain ⟨c52, hb53, hF⟩ := bsome hF
          refine QL.cut 4 [(37, .bool c52)] ?_ ?_
          · rcases Bool.eq_false_or_eq_true c46 with hg54 | hg54
            ·
              rw [hg54] at hb53; simp only [cond_true, cond_false] at hb53
              replace hF := hb53
              refine QL.gy (j := 11) (t := 33) rfl rfl rfl hg54 rfl (Yld.qui (yld_fieldAddr rfl fo_32_4 rfl)) ?_
              refine QL.gy (j := 11) (t := 33) rfl rfl rfl hg54 rfl (Yld.qui (yld_load1 4 rfl ag_24 rfl (Box.cells hb18) rfl rfl)) ?_
              obtain ⟨r55, hr56, hF⟩ := bsome hF
              refine QL.gy (j := 11) (t := 33) rfl rfl rfl hg54 rfl (qui_call rfl gf_53 rfl fun w' hw' => W_impl_areWithin hr56 ((((slRep.old ha6 he15 (Nat.le_refl _)).wide (Nat.le_refl _) (he15).size)).mono (fun k h => ⟨h.1, Nat.lt_of_lt_of_le h.2 (hw').size⟩) (fun k h2 => (hw').block k h2.2))) ?_
              obtain rfl := Option.some.inj hF
              refine QL.yld rfl rfl (Yld.qui (yld_pick_t rfl rfl hg54 rfl)) ?_
              exact QL.nil fun a h => h.weaken ⟨rfl, trivial⟩
            ·
              rw [hg54] at hb53; simp only [cond_true, cond_false] at hb53
              refine QL.gnu (j := 11) (t := 33) rfl rfl rfl hg54 rfl ?_
              refine QL.gnu (j := 11) (t := 33) rfl rfl rfl hg54 rfl ?_
              refine QL.gnu (j := 11) (t := 33) rfl rfl rfl hg54 rfl ?_
              obtain rfl := Option.some.inj hb53
              refine QL.yld rfl rfl (Yld.qui (yld_pick_f rfl rfl hg54 rfl)) ?_
              exact QL.nil fun a h => h.weaken ⟨rfl, trivial⟩
          refine QL.yld rfl rfl (Yld.qui (yld_assign rfl rfl)) ?_
          refine QL.done fun w57 hx58 => ?_
          have he59 : Ext w w57 := Ext.trans he15 hx58
          have hb18 := Box.ext hb18 hx58
          have hz60 := (hx58).size
          refine NX.seq ?_
          refine WC.ret' ?_
          refine NX.blk_r ?_
          refine NX.then_r ?_
          obtain rfl := Option.some.inj hF
          exact NX.end (rs := [.tmp 2]) (vs := [.bool c52]) rfl ⟨rfl, trivial⟩ ⟨_, rfl, rfl, he59⟩
        · intro hc61
          replace hF := bif_f hc61 hF
          refine WC.seq ?_
          refine WC.region ?_
          refine TL.yld rfl rfl (yld_eql rfl rfl rfl) ?_
          refine TL.yld rfl rfl (yld_assign rfl rfl) ?_
          refine TL.done ?_
          refine NX.seq ?_
          refine WC.cond rfl ?_ ?_
          · intro hc62
            replace hF := bif_t hc62 hF
            refine WC.seq ?_
            refine WC.quiet Tryz.hm (by kernel_rfl) ?_
            refine QL.yld rfl rfl (Yld.qui (yld_move rfl rfl)) ?_
            refine QL.yld rfl rfl (Yld.qui (yld_eql rfl rfl rfl)) ?_
            refine QL.yld rfl rfl (Yld.qui (yld_move rfl rfl)) ?_
            refine QL.cut 5 [(1, .pointer (some ⟨b7, 0, none⟩)), (47, .bool ((((i16 == 1)) && ((((a0_c.Truth.length : Int)) == 0)))))] ?_ ?_
            · rcases Bool.eq_false_or_eq_true ((i16 == 1)) with hg63 | hg63
              ·
                refine QL.gy (j := 2) (t := 42) rfl rfl rfl hg63 rfl (Yld.qui (yld_fieldAddr rfl fo_32_4 rfl)) ?_
                refine QL.gy (j := 2) (t := 42) rfl rfl rfl hg63 rfl (Yld.qui (yld_load1 4 rfl ag_24 rfl (Box.cells hb18) rfl rfl)) ?_
                refine QL.gy (j := 2) (t := 42) rfl rfl rfl hg63 rfl (Yld.qui (ye_len (c := (cInt .i64)) rfl Tryz.underlying24 rfl (slRep.old ha6 he15 (Nat.le_refl _)))) ?_
                refine QL.gy (j := 2) (t := 42) rfl rfl rfl hg63 rfl (Yld.qui (yld_eql rfl rfl rfl)) ?_
                refine QL.yld rfl rfl (Yld.qui (yld_and_t rfl rfl hg63 rfl)) ?_
                exact QL.nil fun a h => h.weaken ⟨rfl, rfl, trivial⟩
              ·
                refine QL.gnu (j := 2) (t := 42) rfl rfl rfl hg63 rfl ?_
                refine QL.gnu (j := 2) (t := 42) rfl rfl rfl hg63 rfl ?_
                refine QL.gnu (j := 2) (t := 42) rfl rfl rfl hg63 rfl ?_
                refine QL.gnu (j := 2) (t := 42) rfl rfl rfl hg63 rfl ?_
                refine QL.yld rfl rfl (Yld.qui (yld_and_f (b2 := (((a0_c.Truth.length : Int)) == 0)) rfl rfl hg63 rfl)) ?_
                exact QL.nil fun a h => h.weaken ⟨rfl, rfl, trivial⟩
            refine QL.yld rfl rfl (Yld.qui (yld_move rfl rfl)) ?_
            obtain ⟨c64, hb65, hF⟩ := bsome hF
            refine QL.cut 4 [(1, .pointer (some ⟨b7, 0, none⟩)), (52, .bool c64)] ?_ ?_
            · rcases Bool.eq_false_or_eq_true ((((i16 == 1)) && ((((a0_c.Truth.length : Int)) == 0)))) with hg66 | hg66
              ·
                rw [hg66] at hb65; simp only [cond_true, cond_false] at hb65
                replace hF := hb65
                refine QL.gy (j := 8) (t := 48) rfl rfl rfl hg66 rfl (Yld.qui (yld_loadN (us := [.string a0_c.Name, .int .i64 a0_c.Kind, v1, v3, v5, .int .i64 a0_c.Leak, .int .i64 a0_c.Energy]) rfl ag_32 rfl (Box.cells hb18) cn_32)) ?_
                obtain ⟨r67, hr68, hF⟩ := bsome hF
                refine QL.gy (j := 8) (t := 48) rfl rfl rfl hg66 rfl (qui_call rfl gf_54 rfl fun w' hw' => W_impl_Cell_has hr68 ((((slRep.old ha2 he15 (Nat.le_refl _)).wide (Nat.le_refl _) (he15).size)).mono (fun k h => ⟨h.1, Nat.lt_of_lt_of_le h.2 (hw').size⟩) (fun k h2 => (hw').block k h2.2)) ((((slRep.old ha4 he15 (Nat.le_refl _)).wide (Nat.le_refl _) (he15).size)).mono (fun k h => ⟨h.1, Nat.lt_of_lt_of_le h.2 (hw').size⟩) (fun k h2 => (hw').block k h2.2)) ((((slRep.old ha6 he15 (Nat.le_refl _)).wide (Nat.le_refl _) (he15).size)).mono (fun k h => ⟨h.1, Nat.lt_of_lt_of_le h.2 (hw').size⟩) (fun k h2 => (hw').block k h2.2))) ?_
                refine QL.gy (j := 8) (t := 48) rfl rfl rfl hg66 rfl (Yld.qui (yld_not rfl rfl)) ?_
                obtain rfl := Option.some.inj hF
                refine QL.yld rfl rfl (Yld.qui (yld_pick_t rfl rfl hg66 rfl)) ?_
                exact QL.nil fun a h => h.weaken ⟨rfl, rfl, trivial⟩
              ·
                rw [hg66] at hb65; simp only [cond_true, cond_false] at hb65
                refine QL.gnu (j := 8) (t := 48) rfl rfl rfl hg66 rfl ?_
                refine QL.gnu (j := 8) (t := 48) rfl rfl rfl hg66 rfl ?_
                refine QL.gnu (j := 8) (t := 48) rfl rfl rfl hg66 rfl ?_
                obtain rfl := Option.some.inj hb65
                refine QL.yld rfl rfl (Yld.qui (yld_pick_f rfl rfl hg66 rfl)) ?_
                exact QL.nil fun a h => h.weaken ⟨rfl, rfl, trivial⟩
            refine QL.yld rfl rfl (Yld.qui (yld_move rfl rfl)) ?_
            obtain ⟨c69, hb70, hF⟩ := bsome hF
            refine QL.cut 6 [(59, .bool c69)] ?_ ?_
            · rcases Bool.eq_false_or_eq_true c64 with hg71 | hg71
              ·
                rw [hg71] at hb70; simp only [cond_true, cond_false] at hb70
                replace hF := hb70
                refine QL.gy (j := 13) (t := 53) rfl rfl rfl hg71 rfl (Yld.qui (yld_loadN (us := [.string a0_c.Name, .int .i64 a0_c.Kind, v1, v3, v5, .int .i64 a0_c.Leak, .int .i64 a0_c.Energy]) rfl ag_32 rfl (Box.cells hb18) cn_32)) ?_
                obtain ⟨r72, hr73, hF⟩ := bsome hF
                refine QL.gy (j := 13) (t := 53) rfl rfl rfl hg71 rfl (qui_call rfl gf_54 rfl fun w' hw' => W_impl_Cell_has hr73 ((((slRep.old ha2 he15 (Nat.le_refl _)).wide (Nat.le_refl _) (he15).size)).mono (fun k h => ⟨h.1, Nat.lt_of_lt_of_le h.2 (hw').size⟩) (fun k h2 => (hw').block k h2.2)) ((((slRep.old ha4 he15 (Nat.le_refl _)).wide (Nat.le_refl _) (he15).size)).mono (fun k h => ⟨h.1, Nat.lt_of_lt_of_le h.2 (hw').size⟩) (fun k h2 => (hw').block k h2.2)) ((((slRep.old ha6 he15 (Nat.le_refl _)).wide (Nat.le_refl _) (he15).size)).mono (fun k h => ⟨h.1, Nat.lt_of_lt_of_le h.2 (hw').size⟩) (fun k h2 => (hw').block k h2.2))) ?_
                refine QL.gy (j := 13) (t := 53) rfl rfl rfl hg71 rfl (Yld.qui (yld_loadN (us := [.string a0_c.Name, .int .i64 a0_c.Kind, v1, v3, v5, .int .i64 a0_c.Leak, .int .i64 a0_c.Energy]) rfl ag_32 rfl (Box.cells hb18) cn_32)) ?_
                obtain ⟨r74, hr75, hF⟩ := bsome hF
                refine QL.gy (j := 13) (t := 53) rfl rfl rfl hg71 rfl (qui_call rfl gf_54 rfl fun w' hw' => W_impl_Cell_has hr75 ((((slRep.old ha2 he15 (Nat.le_refl _)).wide (Nat.le_refl _) (he15).size)).mono (fun k h => ⟨h.1, Nat.lt_of_lt_of_le h.2 (hw').size⟩) (fun k h2 => (hw').block k h2.2)) ((((slRep.old ha4 he15 (Nat.le_refl _)).wide (Nat.le_refl _) (he15).size)).mono (fun k h => ⟨h.1, Nat.lt_of_lt_of_le h.2 (hw').size⟩) (fun k h2 => (hw').block k h2.2)) ((((slRep.old ha6 he15 (Nat.le_refl _)).wide (Nat.le_refl _) (he15).size)).mono (fun k h => ⟨h.1, Nat.lt_of_lt_of_le h.2 (hw').size⟩) (fun k h2 => (hw').block k h2.2))) ?_
                refine QL.gy (j := 13) (t := 53) rfl rfl rfl hg71 rfl (Yld.qui (yld_neb rfl Tryz.underlying4 rfl rfl)) ?_
                obtain rfl := Option.some.inj hF
                refine QL.yld rfl rfl (Yld.qui (yld_pick_t rfl rfl hg71 rfl)) ?_
                exact QL.nil fun a h => h.weaken ⟨rfl, trivial⟩
              ·
                rw [hg71] at hb70; simp only [cond_true, cond_false] at hb70
                refine QL.gnu (j := 13) (t := 53) rfl rfl rfl hg71 rfl ?_
                refine QL.gnu (j := 13) (t := 53) rfl rfl rfl hg71 rfl ?_
                refine QL.gnu (j := 13) (t := 53) rfl rfl rfl hg71 rfl ?_
                refine QL.gnu (j := 13) (t := 53) rfl rfl rfl hg71 rfl ?_
                refine QL.gnu (j := 13) (t := 53) rfl rfl rfl hg71 rfl ?_
                obtain rfl := Option.some.inj hb70
                refine QL.yld rfl rfl (Yld.qui (yld_pick_f rfl rfl hg71 rfl)) ?_
                exact QL.nil fun a h => h.weaken ⟨rfl, trivial⟩
            refine QL.yld rfl rfl (Yld.qui (yld_assign rfl rfl)) ?_
            refine QL.done fun w76 hx77 => ?_
            have he78 : Ext w w76 := Ext.trans he15 hx77
            have hb18 := Box.ext hb18 hx77
            have hz79 := (hx77).size
            refine NX.seq ?_
            refine WC.ret' ?_
            refine NX.blk_r ?_
            refine NX.then_r ?_
            obtain rfl := Option.some.inj hF
            exact NX.end (rs := [.tmp 2]) (vs := [.bool c69]) rfl ⟨rfl, trivial⟩ ⟨_, rfl, rfl, he78⟩
          · intro hc80
            replace hF := bif_f hc80 hF
            refine WC.seq ?_
            refine WC.region ?_
            refine TL.yld rfl rfl (yld_eql rfl rfl rfl) ?_
            refine TL.yld rfl rfl (yld_assign rfl rfl) ?_
            refine TL.done ?_
            refine NX.seq ?_
            refine WC.cond rfl ?_ ?_
            · intro hc81
              replace hF := bif_t hc81 hF
              refine WC.seq ?_
              refine WC.region ?_
              refine TL.yld rfl rfl (yld_move rfl rfl) ?_
              refine TL.yld rfl rfl (yld_eql rfl rfl rfl) ?_
              refine TL.yld rfl rfl (yld_move rfl rfl) ?_
              refine TL.cut 5 [(1, .pointer (some ⟨b7, 0, none⟩)), (69, .bool ((((i16 == 1)) && ((((a0_c.Truth.length : Int)) == 0)))))] (fun w' => Ext w14 w') ?_ ?_
              · rcases Bool.eq_false_or_eq_true ((i16 == 1)) with hg82 | hg82
                ·
                  refine TL.gy (j := 2) (t := 64) rfl rfl rfl hg82 rfl (yld_fieldAddr rfl fo_32_4 rfl) ?_
                  refine TL.gy (j := 2) (t := 64) rfl rfl rfl hg82 rfl (yld_load1 4 rfl ag_24 rfl (Box.cells hb18) rfl rfl) ?_
                  refine TL.gy (j := 2) (t := 64) rfl rfl rfl hg82 rfl (ye_len (c := (cInt .i64)) rfl Tryz.underlying24 rfl (slRep.old ha6 he15 (Nat.le_refl _))) ?_
                  refine TL.gy (j := 2) (t := 64) rfl rfl rfl hg82 rfl (yld_eql rfl rfl rfl) ?_
                  refine TL.yld rfl rfl (yld_and_t rfl rfl hg82 rfl) ?_
                  exact TL.nil fun a h => ⟨h.weaken ⟨rfl, rfl, trivial⟩, Ext.refl _⟩
                ·
                  refine TL.gnu (j := 2) (t := 64) rfl rfl rfl hg82 rfl ?_
                  refine TL.gnu (j := 2) (t := 64) rfl rfl rfl hg82 rfl ?_
                  refine TL.gnu (j := 2) (t := 64) rfl rfl rfl hg82 rfl ?_
                  refine TL.gnu (j := 2) (t := 64) rfl rfl rfl hg82 rfl ?_
                  refine TL.yld rfl rfl (yld_and_f (b2 := (((a0_c.Truth.length : Int)) == 0)) rfl rfl hg82 rfl) ?_
                  exact TL.nil fun a h => ⟨h.weaken ⟨rfl, rfl, trivial⟩, Ext.refl _⟩
              intro w83 hx84
              have he85 : Ext w w83 := Ext.trans he15 hx84
              have hb18 := Box.ext hb18 hx84
              have hz86 := (hx84).size
              refine TL.yld rfl rfl (yld_move rfl rfl) ?_
              obtain ⟨c87, hb88, hF⟩ := bsome hF
              refine TL.cut 3 [(1, .pointer (some ⟨b7, 0, none⟩)), (73, .bool c87)] (fun w' => Ext w83 w') ?_ ?_
              · rcases Bool.eq_false_or_eq_true ((((i16 == 1)) && ((((a0_c.Truth.length : Int)) == 0)))) with hg89 | hg89
                ·
                  rw [hg89] at hb88; simp only [cond_true, cond_false] at hb88
                  replace hF := hb88
                  refine TL.gy (j := 8) (t := 70) rfl rfl rfl hg89 rfl (yld_loadN (us := [.string a0_c.Name, .int .i64 a0_c.Kind, v1, v3, v5, .int .i64 a0_c.Leak, .int .i64 a0_c.Energy]) rfl ag_32 rfl (Box.cells hb18) cn_32) ?_
                  obtain ⟨r90, hr91, hF⟩ := bsome hF
                  refine TL.ge (j := 8) (t := 70) rfl rfl rfl hg89 rfl (eff_call rfl gf_54 rfl (W_impl_Cell_has hr91 ((slRep.old ha2 he85 (Nat.le_refl _)).wide (Nat.le_refl _) (he85).size) ((slRep.old ha4 he85 (Nat.le_refl _)).wide (Nat.le_refl _) (he85).size) ((slRep.old ha6 he85 (Nat.le_refl _)).wide (Nat.le_refl _) (he85).size))) ?_
                  rintro _ w92 ⟨rfl, hx93⟩
                  have hb18 := Box.ext hb18 hx93
                  have hz95 := (hx93).size
                  obtain rfl := Option.some.inj hF
                  refine TL.yld rfl rfl (yld_pick_t rfl rfl hg89 rfl) ?_
                  exact TL.nil fun a h => ⟨h.weaken ⟨rfl, rfl, trivial⟩, hx93⟩
                ·
                  rw [hg89] at hb88; simp only [cond_true, cond_false] at hb88
                  refine TL.gnu (j := 8) (t := 70) rfl rfl rfl hg89 rfl ?_
                  refine TL.gnu (j := 8) (t := 70) rfl rfl rfl hg89 rfl ?_
                  obtain rfl := Option.some.inj hb88
                  refine TL.yld rfl rfl (yld_pick_f rfl rfl hg89 rfl) ?_
                  exact TL.nil fun a h => ⟨h.weaken ⟨rfl, rfl, trivial⟩, Ext.refl _⟩
              intro w96 hx97
              have he98 : Ext w w96 := Ext.trans he85 hx97
              have hb18 := Box.ext hb18 hx97
              have hz99 := (hx97).size
              refine TL.yld rfl rfl (yld_move rfl rfl) ?_
              obtain ⟨c100, hb101, hF⟩ := bsome hF
              refine TL.cut 3 [(1, .pointer (some ⟨b7, 0, none⟩)), (77, .bool c100)] (fun w' => Ext w96 w') ?_ ?_
              · rcases Bool.eq_false_or_eq_true c87 with hg102 | hg102
                ·
                  rw [hg102] at hb101; simp only [cond_true, cond_false] at hb101
                  replace hF := hb101
                  refine TL.gy (j := 12) (t := 74) rfl rfl rfl hg102 rfl (yld_loadN (us := [.string a0_c.Name, .int .i64 a0_c.Kind, v1, v3, v5, .int .i64 a0_c.Leak, .int .i64 a0_c.Energy]) rfl ag_32 rfl (Box.cells hb18) cn_32) ?_
                  obtain ⟨r103, hr104, hF⟩ := bsome hF
                  refine TL.ge (j := 12) (t := 74) rfl rfl rfl hg102 rfl (eff_call rfl gf_54 rfl (W_impl_Cell_has hr104 ((slRep.old ha2 he98 (Nat.le_refl _)).wide (Nat.le_refl _) (he98).size) ((slRep.old ha4 he98 (Nat.le_refl _)).wide (Nat.le_refl _) (he98).size) ((slRep.old ha6 he98 (Nat.le_refl _)).wide (Nat.le_refl _) (he98).size))) ?_
                  rintro _ w105 ⟨rfl, hx106⟩
                  have hb18 := Box.ext hb18 hx106
                  have hz108 := (hx106).size
                  obtain rfl := Option.some.inj hF
                  refine TL.yld rfl rfl (yld_pick_t rfl rfl hg102 rfl) ?_
                  exact TL.nil fun a h => ⟨h.weaken ⟨rfl, rfl, trivial⟩, hx106⟩
                ·
                  rw [hg102] at hb101; simp only [cond_true, cond_false] at hb101
                  refine TL.gnu (j := 12) (t := 74) rfl rfl rfl hg102 rfl ?_
                  refine TL.gnu (j := 12) (t := 74) rfl rfl rfl hg102 rfl ?_
                  obtain rfl := Option.some.inj hb101
                  refine TL.yld rfl rfl (yld_pick_f rfl rfl hg102 rfl) ?_
                  exact TL.nil fun a h => ⟨h.weaken ⟨rfl, rfl, trivial⟩, Ext.refl _⟩
              intro w109 hx110
              have he111 : Ext w w109 := Ext.trans he98 hx110
              have hb18 := Box.ext hb18 hx110
              have hz112 := (hx110).size
              refine TL.yld rfl rfl (yld_move rfl rfl) ?_
              obtain ⟨c113, hb114, hF⟩ := bsome hF
              refine TL.cut 4 [(82, .bool c113)] (fun w' => Ext w109 w') ?_ ?_
              · rcases Bool.eq_false_or_eq_true c100 with hg115 | hg115
                ·
                  rw [hg115] at hb114; simp only [cond_true, cond_false] at hb114
                  replace hF := hb114
                  refine TL.gy (j := 16) (t := 78) rfl rfl rfl hg115 rfl (yld_loadN (us := [.string a0_c.Name, .int .i64 a0_c.Kind, v1, v3, v5, .int .i64 a0_c.Leak, .int .i64 a0_c.Energy]) rfl ag_32 rfl (Box.cells hb18) cn_32) ?_
                  obtain ⟨r116, hr117, hF⟩ := bsome hF
                  refine TL.ge (j := 16) (t := 78) rfl rfl rfl hg115 rfl (eff_call rfl gf_54 rfl (W_impl_Cell_has hr117 ((slRep.old ha2 he111 (Nat.le_refl _)).wide (Nat.le_refl _) (he111).size) ((slRep.old ha4 he111 (Nat.le_refl _)).wide (Nat.le_refl _) (he111).size) ((slRep.old ha6 he111 (Nat.le_refl _)).wide (Nat.le_refl _) (he111).size))) ?_
                  rintro _ w118 ⟨rfl, hx119⟩
                  have hz121 := (hx119).size
                  refine TL.gy (j := 16) (t := 78) rfl rfl rfl hg115 rfl (yld_not rfl rfl) ?_
                  obtain rfl := Option.some.inj hF
                  refine TL.yld rfl rfl (yld_pick_t rfl rfl hg115 rfl) ?_
                  exact TL.nil fun a h => ⟨h.weaken ⟨rfl, trivial⟩, hx119⟩
                ·
                  rw [hg115] at hb114; simp only [cond_true, cond_false] at hb114
                  refine TL.gnu (j := 16) (t := 78) rfl rfl rfl hg115 rfl ?_
                  refine TL.gnu (j := 16) (t := 78) rfl rfl rfl hg115 rfl ?_
                  refine TL.gnu (j := 16) (t := 78) rfl rfl rfl hg115 rfl ?_
                  obtain rfl := Option.some.inj hb114
                  refine TL.yld rfl rfl (yld_pick_f rfl rfl hg115 rfl) ?_
                  exact TL.nil fun a h => ⟨h.weaken ⟨rfl, trivial⟩, Ext.refl _⟩
              intro w122 hx123
              have he124 : Ext w w122 := Ext.trans he111 hx123
              have hz125 := (hx123).size
              refine TL.yld rfl rfl (yld_assign rfl rfl) ?_
              refine TL.done ?_
              refine NX.seq ?_
              refine WC.ret' ?_
              refine NX.blk_r ?_
              refine NX.then_r ?_
              obtain rfl := Option.some.inj hF
              exact NX.end (rs := [.tmp 2]) (vs := [.bool c113]) rfl ⟨rfl, trivial⟩ ⟨_, rfl, rfl, he124⟩
            · intro hc126
              replace hF := bif_f hc126 hF
              refine WC.skip' ?_
              refine NX.blk_n ?_
              refine NX.seq ?_
              refine WC.seq ?_
              refine WC.region ?_
              refine TL.yld rfl rfl (yld_assign rfl rfl) ?_
              refine TL.done ?_
              refine NX.seq ?_
              refine WC.ret' ?_
              obtain rfl := Option.some.inj hF
              exact NX.end (rs := [.tmp 2]) (vs := [.bool false]) rfl ⟨rfl, trivial⟩ ⟨_, rfl, rfl, he15⟩

-- loop.example/g00861/impl.IsCell
def F_impl_IsCell (n : Nat) (a0_c : S_Cell) : Option Bool := (Option.bind (F_impl_isName n a0_c.Name) fun r14 => (Option.bind (bif r14 then (Option.bind (F_impl_arePins n a0_c.Pins) fun r20 => (some r20)) else (some false)) fun c20 => (Option.bind (bif c20 then (Option.bind (F_impl_Cell_areArcs n a0_c) fun r33 => (some r33)) else (some false)) fun c33 => (Option.bind (bif c33 then (Option.bind (F_impl_within n a0_c.Leak 0 100000) fun r46 => (some r46)) else (some false)) fun c46 => (Option.bind (bif c46 then (Option.bind (F_impl_within n a0_c.Energy 0 100000) fun r59 => (some r59)) else (some false)) fun c59 => (Option.bind (bif c59 then (Option.bind (F_impl_Cell_isOfKind n a0_c) fun r72 => (some r72)) else (some false)) fun c72 => (some c72)))))))
set_option maxHeartbeats 40000000 in
theorem W_impl_IsCell {n : Nat} {a0_c : S_Cell} {r : Bool} {w : World} {v1 : Value} {v3 : Value} {v5 : Value} (hF : F_impl_IsCell n a0_c = some r) (ha2 : slRep C_Pin w (Iv 0 w.heap.size) a0_c.Pins v1) (ha4 : slRep C_Arc w (Iv 0 w.heap.size) a0_c.Arcs v3) (ha6 : slRep (cInt .i64) w (Iv 0 w.heap.size) a0_c.Truth v5) :
    Calls Tryz.prog 18 [.agg #[.string a0_c.Name, .int .i64 a0_c.Kind, v1, v3, v5, .int .i64 a0_c.Leak, .int .i64 a0_c.Energy]].toArray w (Ret fun u w2 => u = .bool r ∧ Ext w w2) := by
  refine calls_of Tryz.func18 rfl Tryz.ntmps18 ?_
  have he0 : Ext w w := Ext.refl w
  unfold F_impl_IsCell at hF
  refine WC.seq ?_
  refine WC.region ?_
  refine TL.eff rfl rfl (eff_box rfl rfl) ?_
  rintro _ w8 ⟨b7, rfl, hn9⟩
  obtain ⟨hn9e, hn9s, hn9x, hb10⟩ := hn9
  have hb10 : Box w8 b7 [.string a0_c.Name, .int .i64 a0_c.Kind, v1, v3, v5, .int .i64 a0_c.Leak, .int .i64 a0_c.Energy] 32 := hb10
  have he12 : Ext w w8 := Ext.trans he0 hn9x
  have hz13 := (hn9x).size
  have hlo11 : w.heap.size ≤ b7 := by rw [hn9e]; exact (he0).size
  refine TL.yld rfl rfl (yld_assign rfl rfl) ?_
  refine TL.done ?_
  refine NX.seq ?_
  refine WC.seq ?_
  refine WC.region ?_
  refine TL.yld rfl rfl (yld_fieldAddr rfl fo_32_0 rfl) ?_
  refine TL.yld rfl rfl (yld_load1 0 rfl ag_9 rfl (Box.cells hb10) rfl rfl) ?_
  obtain ⟨r14, hr15, hF⟩ := bsome hF
  refine TL.eff rfl rfl (eff_call rfl gf_34 rfl (W_impl_isName hr15)) ?_
  rintro _ w16 ⟨rfl, hx17⟩
  have he18 : Ext w w16 := Ext.trans he12 hx17
  have hb10 := Box.ext hb10 hx17
  have hz19 := (hx17).size
  refine TL.yld rfl rfl (yld_move rfl rfl) ?_
  obtain ⟨c20, hb21, hF⟩ := bsome hF
  refine TL.cut 4 [(1, .pointer (some ⟨b7, 0, none⟩)), (10, .bool c20)] (fun w' => Ext w16 w') ?_ ?_
  · rcases Bool.eq_false_or_eq_true r14 with hg22 | hg22
    ·
      rw [hg22] at hb21; simp only [cond_true, cond_false] at hb21
      replace hF := hb21
      refine TL.gy (j := 3) (t := 6) rfl rfl rfl hg22 rfl (yld_fieldAddr rfl fo_32_2 rfl) ?_
      refine TL.gy (j := 3) (t := 6) rfl rfl rfl hg22 rfl (yld_load1 2 rfl ag_29 rfl (Box.cells hb10) rfl rfl) ?_
      obtain ⟨r23, hr24, hF⟩ := bsome hF
      refine TL.ge (j := 3) (t := 6) rfl rfl rfl hg22 rfl (eff_call rfl gf_35 rfl (W_impl_arePins hr24 ((slRep.old ha2 he18 (Nat.le_refl _)).wide (Nat.le_refl _) (he18).size))) ?_
      rintro _ w25 ⟨rfl, hx26⟩
      have hb10 := Box.ext hb10 hx26
      have hz28 := (hx26).size
      obtain rfl := Option.some.inj hF
      refine TL.yld rfl rfl (yld_pick_t rfl rfl hg22 rfl) ?_
      exact TL.nil fun a h => ⟨h.weaken ⟨rfl, rfl, trivial⟩, hx26⟩
    ·
      rw [hg22] at hb21; simp only [cond_true, cond_false] at hb21
      refine TL.gnu (j := 3) (t := 6) rfl rfl rfl hg22 rfl ?_
      refine TL.gnu (j := 3) (t := 6) rfl rfl rfl hg22 rfl ?_
      refine TL.gnu (j := 3) (t := 6) rfl rfl rfl hg22 rfl ?_
      obtain rfl := Option.some.inj hb21
      refine TL.yld rfl rfl (yld_pick_f rfl rfl hg22 rfl) ?_
      exact TL.nil fun a h => ⟨h.weaken ⟨rfl, rfl, trivial⟩, Ext.refl _⟩
  intro w29 hx30
  have he31 : Ext w w29 := Ext.trans he18 hx30
  have hb10 := Box.ext hb10 hx30
  have hz32 := (hx30).size
  refine TL.yld rfl rfl (yld_move rfl rfl) ?_
  obtain ⟨c33, hb34, hF⟩ := bsome hF
  refine TL.cut 3 [(1, .pointer (some ⟨b7, 0, none⟩)), (14, .bool c33)] (fun w' => Ext w29 w') ?_ ?_
  · rcases Bool.eq_false_or_eq_true c20 with hg35 | hg35
    ·
      rw [hg35] at hb34; simp only [cond_true, cond_false] at hb34
      replace hF := hb34
      refine TL.gy (j := 8) (t := 11) rfl rfl rfl hg35 rfl (yld_loadN (us := [.string a0_c.Name, .int .i64 a0_c.Kind, v1, v3, v5, .int .i64 a0_c.Leak, .int .i64 a0_c.Energy]) rfl ag_32 rfl (Box.cells hb10) cn_32) ?_
      obtain ⟨r36, hr37, hF⟩ := bsome hF
      refine TL.ge (j := 8) (t := 11) rfl rfl rfl hg35 rfl (eff_call rfl gf_36 rfl (W_impl_Cell_areArcs hr37 ((slRep.old ha2 he31 (Nat.le_refl _)).wide (Nat.le_refl _) (he31).size) ((slRep.old ha4 he31 (Nat.le_refl _)).wide (Nat.le_refl _) (he31).size) ((slRep.old ha6 he31 (Nat.le_refl _)).wide (Nat.le_refl _) (he31).size))) ?_
      rintro _ w38 ⟨rfl, hx39⟩
      have hb10 := Box.ext hb10 hx39
      have hz41 := (hx39).size
      obtain rfl := Option.some.inj hF
      refine TL.yld rfl rfl (yld_pick_t rfl rfl hg35 rfl) ?_
      exact TL.nil fun a h => ⟨h.weaken ⟨rfl, rfl, trivial⟩, hx39⟩
    ·
      rw [hg35] at hb34; simp only [cond_true, cond_false] at hb34
      refine TL.gnu (j := 8) (t := 11) rfl rfl rfl hg35 rfl ?_
      refine TL.gnu (j := 8) (t := 11) rfl rfl rfl hg35 rfl ?_
      obtain rfl := Option.some.inj hb34
      refine TL.yld rfl rfl (yld_pick_f rfl rfl hg35 rfl) ?_
      exact TL.nil fun a h => ⟨h.weaken ⟨rfl, rfl, trivial⟩, Ext.refl _⟩
  intro w42 hx43
  have he44 : Ext w w42 := Ext.trans he31 hx43
  have hb10 := Box.ext hb10 hx43
  have hz45 := (hx43).size
  refine TL.yld rfl rfl (yld_move rfl rfl) ?_
  obtain ⟨c46, hb47, hF⟩ := bsome hF
  refine TL.cut 4 [(1, .pointer (some ⟨b7, 0, none⟩)), (19, .bool c46)] (fun w' => Ext w42 w') ?_ ?_
  · rcases Bool.eq_false_or_eq_true c33 with hg48 | hg48
    ·
      rw [hg48] at hb47; simp only [cond_true, cond_false] at hb47
      replace hF := hb47
      refine TL.gy (j := 12) (t := 15) rfl rfl rfl hg48 rfl (yld_fieldAddr rfl fo_32_5 rfl) ?_
      refine TL.gy (j := 12) (t := 15) rfl rfl rfl hg48 rfl (yld_load1 5 rfl ag_2 rfl (Box.cells hb10) rfl rfl) ?_
      obtain ⟨r49, hr50, hF⟩ := bsome hF
      refine TL.ge (j := 12) (t := 15) rfl rfl rfl hg48 rfl (eff_call rfl gf_37 rfl (W_impl_within hr50)) ?_
      rintro _ w51 ⟨rfl, hx52⟩
      have hb10 := Box.ext hb10 hx52
      have hz54 := (hx52).size
      obtain rfl := Option.some.inj hF
      refine TL.yld rfl rfl (yld_pick_t rfl rfl hg48 rfl) ?_
      exact TL.nil fun a h => ⟨h.weaken ⟨rfl, rfl, trivial⟩, hx52⟩
    ·
      rw [hg48] at hb47; simp only [cond_true, cond_false] at hb47
      refine TL.gnu (j := 12) (t := 15) rfl rfl rfl hg48 rfl ?_
      refine TL.gnu (j := 12) (t := 15) rfl rfl rfl hg48 rfl ?_
      refine TL.gnu (j := 12) (t := 15) rfl rfl rfl hg48 rfl ?_
      obtain rfl := Option.some.inj hb47
      refine TL.yld rfl rfl (yld_pick_f rfl rfl hg48 rfl) ?_
      exact TL.nil fun a h => ⟨h.weaken ⟨rfl, rfl, trivial⟩, Ext.refl _⟩
  intro w55 hx56
  have he57 : Ext w w55 := Ext.trans he44 hx56
  have hb10 := Box.ext hb10 hx56
  have hz58 := (hx56).size
  refine TL.yld rfl rfl (yld_move rfl rfl) ?_
  obtain ⟨c59, hb60, hF⟩ := bsome hF
  refine TL.cut 4 [(1, .pointer (some ⟨b7, 0, none⟩)), (24, .bool c59)] (fun w' => Ext w55 w') ?_ ?_
  · rcases Bool.eq_false_or_eq_true c46 with hg61 | hg61
    ·
      rw [hg61] at hb60; simp only [cond_true, cond_false] at hb60
      replace hF := hb60
      refine TL.gy (j := 17) (t := 20) rfl rfl rfl hg61 rfl (yld_fieldAddr rfl fo_32_6 rfl) ?_
      refine TL.gy (j := 17) (t := 20) rfl rfl rfl hg61 rfl (yld_load1 6 rfl ag_2 rfl (Box.cells hb10) rfl rfl) ?_
      obtain ⟨r62, hr63, hF⟩ := bsome hF
      refine TL.ge (j := 17) (t := 20) rfl rfl rfl hg61 rfl (eff_call rfl gf_37 rfl (W_impl_within hr63)) ?_
      rintro _ w64 ⟨rfl, hx65⟩
      have hb10 := Box.ext hb10 hx65
      have hz67 := (hx65).size
      obtain rfl := Option.some.inj hF
      refine TL.yld rfl rfl (yld_pick_t rfl rfl hg61 rfl) ?_
      exact TL.nil fun a h => ⟨h.weaken ⟨rfl, rfl, trivial⟩, hx65⟩
    ·
      rw [hg61] at hb60; simp only [cond_true, cond_false] at hb60
      refine TL.gnu (j := 17) (t := 20) rfl rfl rfl hg61 rfl ?_
      refine TL.gnu (j := 17) (t := 20) rfl rfl rfl hg61 rfl ?_
      refine TL.gnu (j := 17) (t := 20) rfl rfl rfl hg61 rfl ?_
      obtain rfl := Option.some.inj hb60
      refine TL.yld rfl rfl (yld_pick_f rfl rfl hg61 rfl) ?_
      exact TL.nil fun a h => ⟨h.weaken ⟨rfl, rfl, trivial⟩, Ext.refl _⟩
  intro w68 hx69
  have he70 : Ext w w68 := Ext.trans he57 hx69
  have hb10 := Box.ext hb10 hx69
  have hz71 := (hx69).size
  refine TL.yld rfl rfl (yld_move rfl rfl) ?_
  obtain ⟨c72, hb73, hF⟩ := bsome hF
  refine TL.cut 3 [(28, .bool c72)] (fun w' => Ext w68 w') ?_ ?_
  · rcases Bool.eq_false_or_eq_true c59 with hg74 | hg74
    ·
      rw [hg74] at hb73; simp only [cond_true, cond_false] at hb73
      replace hF := hb73
      refine TL.gy (j := 22) (t := 25) rfl rfl rfl hg74 rfl (yld_loadN (us := [.string a0_c.Name, .int .i64 a0_c.Kind, v1, v3, v5, .int .i64 a0_c.Leak, .int .i64 a0_c.Energy]) rfl ag_32 rfl (Box.cells hb10) cn_32) ?_
      obtain ⟨r75, hr76, hF⟩ := bsome hF
      refine TL.ge (j := 22) (t := 25) rfl rfl rfl hg74 rfl (eff_call rfl gf_38 rfl (W_impl_Cell_isOfKind hr76 ((slRep.old ha2 he70 (Nat.le_refl _)).wide (Nat.le_refl _) (he70).size) ((slRep.old ha4 he70 (Nat.le_refl _)).wide (Nat.le_refl _) (he70).size) ((slRep.old ha6 he70 (Nat.le_refl _)).wide (Nat.le_refl _) (he70).size))) ?_
      rintro _ w77 ⟨rfl, hx78⟩
      have hz80 := (hx78).size
      obtain rfl := Option.some.inj hF
      refine TL.yld rfl rfl (yld_pick_t rfl rfl hg74 rfl) ?_
      exact TL.nil fun a h => ⟨h.weaken ⟨rfl, trivial⟩, hx78⟩
    ·
      rw [hg74] at hb73; simp only [cond_true, cond_false] at hb73
      refine TL.gnu (j := 22) (t := 25) rfl rfl rfl hg74 rfl ?_
      refine TL.gnu (j := 22) (t := 25) rfl rfl rfl hg74 rfl ?_
      obtain rfl := Option.some.inj hb73
      refine TL.yld rfl rfl (yld_pick_f rfl rfl hg74 rfl) ?_
      exact TL.nil fun a h => ⟨h.weaken ⟨rfl, trivial⟩, Ext.refl _⟩
  intro w81 hx82
  have he83 : Ext w w81 := Ext.trans he70 hx82
  have hz84 := (hx82).size
  refine TL.yld rfl rfl (yld_assign rfl rfl) ?_
  refine TL.done ?_
  refine NX.seq ?_
  refine WC.ret' ?_
  obtain rfl := Option.some.inj hF
  exact NX.end (rs := [.tmp 2]) (vs := [.bool c72]) rfl ⟨rfl, trivial⟩ ⟨_, rfl, rfl, he83⟩

-- (loop.example/g00861/impl.Cell).passes
def F_impl_Cell_passes_L1 (a0_c : S_Cell) (a1_p : Int) (a2_q : Int) (a3_level : Int) (k0 : Int → Option Bool) : Nat → Int → Option Bool
  | 0 => fun _ => none
  | m + 1 => fun i16 => (bif decide (i16 < (a0_c.Truth.length : Int)) then (Option.bind (getI a0_c.Truth i16) fun x19 => (bif decide (a1_p < 0) then none else (Option.bind (bif ((andK .i64 (shrK .i64 i16 a1_p) 1) == a3_level) then (bif decide (a2_q < 0) then none else (Option.bind (getI a0_c.Truth (xorK .i64 i16 (shlK .i64 1 a2_q))) fun x29 => (some ((x19 != x29))))) else (some false)) fun c28 => (bif c28 then (some true) else (F_impl_Cell_passes_L1 a0_c a1_p a2_q a3_level k0 m (IntKind.wrap IntKind.i64 (i16 + 1))))))) else (k0 i16))
theorem F_impl_Cell_passes_L1_z (a0_c : S_Cell) (a1_p : Int) (a2_q : Int) (a3_level : Int) (k0 : Int → Option Bool) (i16 : Int) : F_impl_Cell_passes_L1 a0_c a1_p a2_q a3_level k0 0 i16 = none := rfl
theorem F_impl_Cell_passes_L1_s (m : Nat) (a0_c : S_Cell) (a1_p : Int) (a2_q : Int) (a3_level : Int) (k0 : Int → Option Bool) (i16 : Int) : F_impl_Cell_passes_L1 a0_c a1_p a2_q a3_level k0 (m + 1) i16 = (bif decide (i16 < (a0_c.Truth.length : Int)) then (Option.bind (getI a0_c.Truth i16) fun x19 => (bif decide (a1_p < 0) then none else (Option.bind (bif ((andK .i64 (shrK .i64 i16 a1_p) 1) == a3_level) then (bif decide (a2_q < 0) then none else (Option.bind (getI a0_c.Truth (xorK .i64 i16 (shlK .i64 1 a2_q))) fun x29 => (some ((x19 != x29))))) else (some false)) fun c28 => (bif c28 then (some true) else (F_impl_Cell_passes_L1 a0_c a1_p a2_q a3_level k0 m (IntKind.wrap IntKind.i64 (i16 + 1))))))) else (k0 i16)) := rfl

def F_impl_Cell_passes (n : Nat) (a0_c : S_Cell) (a1_p : Int) (a2_q : Int) (a3_level : Int) : Option Bool := (F_impl_Cell_passes_L1 a0_c a1_p a2_q a3_level (fun i16 => (some false)) n 0)
set_option maxHeartbeats 40000000 in
theorem W_impl_Cell_passes {n : Nat} {a0_c : S_Cell} {a1_p : Int} {a2_q : Int} {a3_level : Int} {r : Bool} {w : World} {v1 : Value} {v3 : Value} {v5 : Value} (hF : F_impl_Cell_passes n a0_c a1_p a2_q a3_level = some r) (ha2 : slRep C_Pin w (Iv 0 w.heap.size) a0_c.Pins v1) (ha4 : slRep C_Arc w (Iv 0 w.heap.size) a0_c.Arcs v3) (ha6 : slRep (cInt .i64) w (Iv 0 w.heap.size) a0_c.Truth v5) :
    Calls Tryz.prog 40 [.agg #[.string a0_c.Name, .int .i64 a0_c.Kind, v1, v3, v5, .int .i64 a0_c.Leak, .int .i64 a0_c.Energy], .int .i64 a1_p, .int .i64 a2_q, .int .i64 a3_level].toArray w (Ret fun u w2 => u = .bool r ∧ Ext w w2) := by
  refine calls_of Tryz.func40 rfl Tryz.ntmps40 ?_
  have he0 : Ext w w := Ext.refl w
  unfold F_impl_Cell_passes at hF
  refine WC.seq ?_
  refine WC.region ?_
  refine TL.eff rfl rfl (eff_box rfl rfl) ?_
  rintro _ w8 ⟨b7, rfl, hn9⟩
  obtain ⟨hn9e, hn9s, hn9x, hb10⟩ := hn9
  have hb10 : Box w8 b7 [.string a0_c.Name, .int .i64 a0_c.Kind, v1, v3, v5, .int .i64 a0_c.Leak, .int .i64 a0_c.Energy] 32 := hb10
  have he12 : Ext w w8 := Ext.trans he0 hn9x
  have hz13 := (hn9x).size
  have hlo11 : w.heap.size ≤ b7 := by rw [hn9e]; exact (he0).size
  refine TL.yld rfl rfl (yld_assign rfl rfl) ?_
  refine TL.done ?_
  refine NX.seq ?_
  refine WC.seq ?_
  refine WC.seq ?_
  refine WC.region ?_
  refine TL.yld rfl rfl (yld_fieldAddr rfl fo_32_4 rfl) ?_
  refine TL.yld rfl rfl (yld_load1 4 rfl ag_24 rfl (Box.cells hb10) rfl rfl) ?_
  refine TL.yld rfl rfl (ye_len (c := (cInt .i64)) rfl Tryz.underlying24 rfl (slRep.old ha6 he12 (Nat.le_refl _))) ?_
  refine TL.yld rfl rfl (yld_move rfl rfl) ?_
  refine TL.done ?_
  refine NX.seq ?_
  refine WC.block ?_
  refine WC.loop (fun m18 a wl => ∃ (i16 : Int), Kn 38 [(1, .int .i64 a1_p), (2, .int .i64 a2_q), (3, .int .i64 a3_level), (4, .pointer (some ⟨b7, 0, none⟩)), (12, v5), (13, .int .i64 ((a0_c.Truth.length : Int))), (14, .int .i64 i16)] a ∧ Ext w wl ∧ w8.heap.size ≤ wl.heap.size ∧ Box wl b7 [.string a0_c.Name, .int .i64 a0_c.Kind, v1, v3, v5, .int .i64 a0_c.Leak, .int .i64 a0_c.Energy] 32 ∧ F_impl_Cell_passes_L1 a0_c a1_p a2_q a3_level (fun i16 => (some false)) m18 i16 = some r) n ?_ ?_
  · intro a hK; exact ⟨0, hK.weaken ⟨rfl, rfl, rfl, rfl, rfl, rfl, rfl, trivial⟩, he12, Nat.le_refl _, hb10, hF⟩
  · rintro m18 a w14 ⟨i16, hK, he15, hz19, hb17, hF⟩
    revert hK; revert a; refine (?_ : WC _ _ _ _ _ _)
    cases m18 with
    | zero => rw [F_impl_Cell_passes_L1_z] at hF; cases hF
    | succ m18 =>
      rw [F_impl_Cell_passes_L1_s] at hF
      refine WC.seq ?_
      refine WC.region ?_
      refine TL.yld rfl rfl (yld_lss rfl rfl rfl) ?_
      refine TL.done ?_
      refine NX.seq ?_
      refine WC.seq ?_
      refine WC.cond rfl ?_ ?_
      · intro hc20
        replace hF := bif_t hc20 hF
        refine WC.skip' ?_
        refine NX.seq ?_
        refine WC.seq ?_
        refine WC.block ?_
        refine WC.seq ?_
        refine WC.region ?_
        refine TL.yld rfl rfl (yld_move rfl rfl) ?_
        obtain ⟨x21, hy22, hF⟩ := bsome hF
        refine TL.ye rfl rfl (ye_index (c := (cInt .i64)) rfl Tryz.underlying24 cn_2 rfl rfl (slRep.old ha6 he15 (Nat.le_refl _)) hy22) ?_
        rintro _ ⟨b23, o24, us25, rfl, hib28, hr26, hcl27⟩
        have hib28 : 0 ≤ b23 ∧ b23 < w.heap.size := ⟨hib28.1, by have := hib28.2; omega⟩
        obtain rfl := hr26
        refine TL.yld rfl rfl (yld_load1 0 rfl ag_2 rfl hcl27 rfl rfl) ?_
        refine TL.yld rfl rfl (yld_assign rfl rfl) ?_
        refine TL.yld rfl rfl (yld_assign rfl rfl) ?_
        refine TL.done ?_
        refine NX.seq ?_
        refine WC.seq ?_
        refine WC.quiet Tryz.hm (by kernel_rfl) ?_
        refine QL.yld rfl rfl (Yld.qui (yld_move rfl rfl)) ?_
        refine QL.yld rfl rfl (Yld.qui (yld_move rfl rfl)) ?_
        obtain ⟨hn29, hF⟩ := nneg hF
        refine QL.yld rfl rfl (Yld.qui (yld_shr rfl rfl rfl hn29)) ?_
        refine QL.yld rfl rfl (Yld.qui (yld_and rfl rfl rfl)) ?_
        refine QL.yld rfl rfl (Yld.qui (yld_move rfl rfl)) ?_
        refine QL.yld rfl rfl (Yld.qui (yld_eql rfl rfl rfl)) ?_
        refine QL.yld rfl rfl (Yld.qui (yld_move rfl rfl)) ?_
        obtain ⟨c30, hb31, hF⟩ := bsome hF
        refine QL.cut 11 [(1, .int .i64 a1_p), (2, .int .i64 a2_q), (3, .int .i64 a3_level), (4, .pointer (some ⟨b7, 0, none⟩)), (12, v5), (13, .int .i64 ((a0_c.Truth.length : Int))), (14, .int .i64 i16), (36, .bool c30)] ?_ ?_
        · rcases Bool.eq_false_or_eq_true (((andK .i64 (shrK .i64 i16 a1_p) 1) == a3_level)) with hg32 | hg32
          ·
            rw [hg32] at hb31; simp only [cond_true, cond_false] at hb31
            replace hF := hb31
            refine QL.gy (j := 6) (t := 25) rfl rfl rfl hg32 rfl (Yld.qui (yld_move rfl rfl)) ?_
            refine QL.gy (j := 6) (t := 25) rfl rfl rfl hg32 rfl (Yld.qui (yld_fieldAddr rfl fo_32_4 rfl)) ?_
            refine QL.gy (j := 6) (t := 25) rfl rfl rfl hg32 rfl (Yld.qui (yld_load1 4 rfl ag_24 rfl (Box.cells hb17) rfl rfl)) ?_
            refine QL.gy (j := 6) (t := 25) rfl rfl rfl hg32 rfl (Yld.qui (yld_move rfl rfl)) ?_
            refine QL.gy (j := 6) (t := 25) rfl rfl rfl hg32 rfl (Yld.qui (yld_move rfl rfl)) ?_
            obtain ⟨hn33, hF⟩ := nneg hF
            refine QL.gy (j := 6) (t := 25) rfl rfl rfl hg32 rfl (Yld.qui (yld_shl rfl rfl rfl hn33)) ?_
            refine QL.gy (j := 6) (t := 25) rfl rfl rfl hg32 rfl (Yld.qui (yld_xor rfl rfl rfl)) ?_
            obtain ⟨x34, hy35, hF⟩ := bsome hF
            refine QL.yeg (j := 6) (t := 25) rfl rfl rfl hg32 rfl (ye_index (c := (cInt .i64)) rfl Tryz.underlying24 cn_2 rfl rfl (slRep.old ha6 he15 (Nat.le_refl _)) hy35) ?_
            rintro _ ⟨b36, o37, us38, rfl, hib41, hr39, hcl40⟩
            have hib41 : 0 ≤ b36 ∧ b36 < w.heap.size := ⟨hib41.1, by have := hib41.2; omega⟩
            obtain rfl := hr39
            refine QL.gy (j := 6) (t := 25) rfl rfl rfl hg32 rfl (Yld.qui (yld_load1 0 rfl ag_2 rfl hcl40 rfl rfl)) ?_
            refine QL.gy (j := 6) (t := 25) rfl rfl rfl hg32 rfl (Yld.qui (yld_neq rfl rfl rfl)) ?_
            obtain rfl := Option.some.inj hF
            refine QL.yld rfl rfl (Yld.qui (yld_pick_t rfl rfl hg32 rfl)) ?_
            exact QL.nil fun a h => h.weaken ⟨rfl, rfl, rfl, rfl, rfl, rfl, rfl, rfl, trivial⟩
          ·
            rw [hg32] at hb31; simp only [cond_true, cond_false] at hb31
            refine QL.gnu (j := 6) (t := 25) rfl rfl rfl hg32 rfl ?_
            refine QL.gnu (j := 6) (t := 25) rfl rfl rfl hg32 rfl ?_
            refine QL.gnu (j := 6) (t := 25) rfl rfl rfl hg32 rfl ?_
            refine QL.gnu (j := 6) (t := 25) rfl rfl rfl hg32 rfl ?_
            refine QL.gnu (j := 6) (t := 25) rfl rfl rfl hg32 rfl ?_
            refine QL.gnu (j := 6) (t := 25) rfl rfl rfl hg32 rfl ?_
            refine QL.gnu (j := 6) (t := 25) rfl rfl rfl hg32 rfl ?_
            refine QL.gnu (j := 6) (t := 25) rfl rfl rfl hg32 rfl ?_
            refine QL.gnu (j := 6) (t := 25) rfl rfl rfl hg32 rfl ?_
            refine QL.gnu (j := 6) (t := 25) rfl rfl rfl hg32 rfl ?_
            obtain rfl := Option.some.inj hb31
            refine QL.yld rfl rfl (Yld.qui (yld_pick_f rfl rfl hg32 rfl)) ?_
            exact QL.nil fun a h => h.weaken ⟨rfl, rfl, rfl, rfl, rfl, rfl, rfl, rfl, trivial⟩
        refine QL.done fun w42 hx43 => ?_
        have he44 : Ext w w42 := Ext.trans he15 hx43
        have hb17 := Box.ext hb17 hx43
        have hz45 := (hx43).size
        refine NX.seq ?_
        refine WC.cond rfl ?_ ?_
        · intro hc46
          replace hF := bif_t hc46 hF
          refine WC.seq ?_
          refine WC.region ?_
          refine TL.yld rfl rfl (yld_assign rfl rfl) ?_
          refine TL.done ?_
          refine NX.seq ?_
          refine WC.ret' ?_
          refine NX.blk_r ?_
          refine NX.then_r ?_
          refine NX.then_r ?_
          refine NX.blk_r ?_
          refine NX.then_r ?_
          obtain rfl := Option.some.inj hF
          exact NX.end (rs := [.tmp 8]) (vs := [.bool true]) rfl ⟨rfl, trivial⟩ ⟨_, rfl, rfl, he44⟩
        · intro hc47
          replace hF := bif_f hc47 hF
          refine WC.skip' ?_
          refine NX.blk_n ?_
          refine NX.seq ?_
          refine WC.region ?_
          refine TL.yld rfl rfl (yld_add rfl rfl rfl) ?_
          refine TL.yld rfl rfl (yld_move rfl rfl) ?_
          refine TL.done ?_
          refine NX.then_n ?_
          intro a hK; exact ⟨m18, Nat.lt_succ_self m18, (IntKind.wrap IntKind.i64 (i16 + 1)), hK.weaken ⟨rfl, rfl, rfl, rfl, rfl, rfl, rfl, trivial⟩, he44, (by omega), hb17, hF⟩
      · intro hc48
        replace hF := bif_f hc48 hF
        refine WC.exit' ?_
        refine NX.then_e ?_
        refine NX.then_e ?_
        refine NX.blk_hit ?_
        refine NX.seq ?_
        refine WC.seq ?_
        refine WC.region ?_
        refine TL.yld rfl rfl (yld_assign rfl rfl) ?_
        refine TL.done ?_
        refine NX.seq ?_
        refine WC.ret' ?_
        obtain rfl := Option.some.inj hF
        exact NX.end (rs := [.tmp 8]) (vs := [.bool false]) rfl ⟨rfl, trivial⟩ ⟨_, rfl, rfl, he15⟩

-- (loop.example/g00861/impl.Cell).activeLevel
def F_impl_Cell_activeLevel (n : Nat) (a0_c : S_Cell) (a1_p : Int) (a2_q : Int) : Option Int := (Option.bind (F_impl_Cell_passes n a0_c a1_p a2_q 0) fun r14 => (Option.bind (F_impl_Cell_passes n a0_c a1_p a2_q 1) fun r16 => (bif (r14 && r16) then (some 2) else (bif r16 then (some 1) else (bif r14 then (some 0) else (some (-1)))))))
set_option maxHeartbeats 40000000 in
theorem W_impl_Cell_activeLevel {n : Nat} {a0_c : S_Cell} {a1_p : Int} {a2_q : Int} {r : Int} {w : World} {v1 : Value} {v3 : Value} {v5 : Value} (hF : F_impl_Cell_activeLevel n a0_c a1_p a2_q = some r) (ha2 : slRep C_Pin w (Iv 0 w.heap.size) a0_c.Pins v1) (ha4 : slRep C_Arc w (Iv 0 w.heap.size) a0_c.Arcs v3) (ha6 : slRep (cInt .i64) w (Iv 0 w.heap.size) a0_c.Truth v5) :
    Calls Tryz.prog 20 [.agg #[.string a0_c.Name, .int .i64 a0_c.Kind, v1, v3, v5, .int .i64 a0_c.Leak, .int .i64 a0_c.Energy], .int .i64 a1_p, .int .i64 a2_q].toArray w (Ret fun u w2 => u = .int .i64 r ∧ Ext w w2) := by
  refine calls_of Tryz.func20 rfl Tryz.ntmps20 ?_
  have he0 : Ext w w := Ext.refl w
  unfold F_impl_Cell_activeLevel at hF
  refine WC.seq ?_
  refine WC.region ?_
  refine TL.eff rfl rfl (eff_box rfl rfl) ?_
  rintro _ w8 ⟨b7, rfl, hn9⟩
  obtain ⟨hn9e, hn9s, hn9x, hb10⟩ := hn9
  have hb10 : Box w8 b7 [.string a0_c.Name, .int .i64 a0_c.Kind, v1, v3, v5, .int .i64 a0_c.Leak, .int .i64 a0_c.Energy] 32 := hb10
  have he12 : Ext w w8 := Ext.trans he0 hn9x
  have hz13 := (hn9x).size
  have hlo11 : w.heap.size ≤ b7 := by rw [hn9e]; exact (he0).size
  refine TL.yld rfl rfl (yld_assign rfl rfl) ?_
  refine TL.done ?_
  refine NX.seq ?_
  refine WC.seq ?_
  refine WC.quiet Tryz.hm (by kernel_rfl) ?_
  refine QL.yld rfl rfl (Yld.qui (yld_loadN (us := [.string a0_c.Name, .int .i64 a0_c.Kind, v1, v3, v5, .int .i64 a0_c.Leak, .int .i64 a0_c.Energy]) rfl ag_32 rfl (Box.cells hb10) cn_32)) ?_
  refine QL.yld rfl rfl (Yld.qui (yld_move rfl rfl)) ?_
  refine QL.yld rfl rfl (Yld.qui (yld_move rfl rfl)) ?_
  obtain ⟨r14, hr15, hF⟩ := bsome hF
  refine QL.yld rfl rfl (qui_call rfl gf_40 rfl fun w' hw' => W_impl_Cell_passes hr15 ((((slRep.old ha2 he12 (Nat.le_refl _)).wide (Nat.le_refl _) (he12).size)).mono (fun k h => ⟨h.1, Nat.lt_of_lt_of_le h.2 (hw').size⟩) (fun k h2 => (hw').block k h2.2)) ((((slRep.old ha4 he12 (Nat.le_refl _)).wide (Nat.le_refl _) (he12).size)).mono (fun k h => ⟨h.1, Nat.lt_of_lt_of_le h.2 (hw').size⟩) (fun k h2 => (hw').block k h2.2)) ((((slRep.old ha6 he12 (Nat.le_refl _)).wide (Nat.le_refl _) (he12).size)).mono (fun k h => ⟨h.1, Nat.lt_of_lt_of_le h.2 (hw').size⟩) (fun k h2 => (hw').block k h2.2))) ?_
  refine QL.yld rfl rfl (Yld.qui (yld_loadN (us := [.string a0_c.Name, .int .i64 a0_c.Kind, v1, v3, v5, .int .i64 a0_c.Leak, .int .i64 a0_c.Energy]) rfl ag_32 rfl (Box.cells hb10) cn_32)) ?_
  refine QL.yld rfl rfl (Yld.qui (yld_move rfl rfl)) ?_
  refine QL.yld rfl rfl (Yld.qui (yld_move rfl rfl)) ?_
  obtain ⟨r16, hr17, hF⟩ := bsome hF
  refine QL.yld rfl rfl (qui_call rfl gf_40 rfl fun w' hw' => W_impl_Cell_passes hr17 ((((slRep.old ha2 he12 (Nat.le_refl _)).wide (Nat.le_refl _) (he12).size)).mono (fun k h => ⟨h.1, Nat.lt_of_lt_of_le h.2 (hw').size⟩) (fun k h2 => (hw').block k h2.2)) ((((slRep.old ha4 he12 (Nat.le_refl _)).wide (Nat.le_refl _) (he12).size)).mono (fun k h => ⟨h.1, Nat.lt_of_lt_of_le h.2 (hw').size⟩) (fun k h2 => (hw').block k h2.2)) ((((slRep.old ha6 he12 (Nat.le_refl _)).wide (Nat.le_refl _) (he12).size)).mono (fun k h => ⟨h.1, Nat.lt_of_lt_of_le h.2 (hw').size⟩) (fun k h2 => (hw').block k h2.2))) ?_
  refine QL.yld rfl rfl (Yld.qui (yld_assign rfl rfl)) ?_
  refine QL.yld rfl rfl (Yld.qui (yld_assign rfl rfl)) ?_
  refine QL.done fun w18 hx19 => ?_
  have he20 : Ext w w18 := Ext.trans he12 hx19
  have hz21 := (hx19).size
  refine NX.seq ?_
  refine WC.seq ?_
  refine WC.block ?_
  refine WC.seq ?_
  refine WC.region ?_
  refine TL.yld rfl rfl (yld_move rfl rfl) ?_
  refine TL.yld rfl rfl (yld_move rfl rfl) ?_
  refine TL.cut 2 [(7, .bool r14), (8, .bool r16), (21, .bool ((r14 && r16)))] (fun w' => Ext w18 w') ?_ ?_
  · rcases Bool.eq_false_or_eq_true r14 with hg22 | hg22
    ·
      refine TL.gy (j := 1) (t := 19) rfl rfl rfl hg22 rfl (yld_move rfl rfl) ?_
      refine TL.yld rfl rfl (yld_and_t rfl rfl hg22 rfl) ?_
      exact TL.nil fun a h => ⟨h.weaken ⟨rfl, rfl, rfl, trivial⟩, Ext.refl _⟩
    ·
      refine TL.gnu (j := 1) (t := 19) rfl rfl rfl hg22 rfl ?_
      refine TL.yld rfl rfl (yld_and_f (b2 := r16) rfl rfl hg22 rfl) ?_
      exact TL.nil fun a h => ⟨h.weaken ⟨rfl, rfl, rfl, trivial⟩, Ext.refl _⟩
  intro w23 hx24
  have he25 : Ext w w23 := Ext.trans he20 hx24
  have hz26 := (hx24).size
  refine TL.yld rfl rfl (yld_assign rfl rfl) ?_
  refine TL.done ?_
  refine NX.seq ?_
  refine WC.cond rfl ?_ ?_
  · intro hc27
    replace hF := bif_t hc27 hF
    refine WC.seq ?_
    refine WC.region ?_
    refine TL.yld rfl rfl (yld_assign rfl rfl) ?_
    refine TL.done ?_
    refine NX.seq ?_
    refine WC.ret' ?_
    refine NX.blk_r ?_
    refine NX.then_r ?_
    obtain rfl := Option.some.inj hF
    exact NX.end (rs := [.tmp 6]) (vs := [.int .i64 2]) rfl ⟨rfl, trivial⟩ ⟨_, rfl, rfl, he25⟩
  · intro hc28
    replace hF := bif_f hc28 hF
    refine WC.seq ?_
    refine WC.region ?_
    refine TL.yld rfl rfl (yld_move rfl rfl) ?_
    refine TL.yld rfl rfl (yld_assign rfl rfl) ?_
    refine TL.done ?_
    refine NX.seq ?_
    refine WC.cond rfl ?_ ?_
    · intro hc29
      replace hF := bif_t hc29 hF
      refine WC.seq ?_
      refine WC.region ?_
      refine TL.yld rfl rfl (yld_assign rfl rfl) ?_
      refine TL.done ?_
      refine NX.seq ?_
      refine WC.ret' ?_
      refine NX.blk_r ?_
      refine NX.then_r ?_
      obtain rfl := Option.some.inj hF
      exact NX.end (rs := [.tmp 6]) (vs := [.int .i64 1]) rfl ⟨rfl, trivial⟩ ⟨_, rfl, rfl, he25⟩
    · intro hc30
      replace hF := bif_f hc30 hF
      refine WC.seq ?_
      refine WC.region ?_
      refine TL.yld rfl rfl (yld_move rfl rfl) ?_
      refine TL.yld rfl rfl (yld_assign rfl rfl) ?_
      refine TL.done ?_
      refine NX.seq ?_
      refine WC.cond rfl ?_ ?_
      · intro hc31
        replace hF := bif_t hc31 hF
        refine WC.seq ?_
        refine WC.region ?_
        refine TL.yld rfl rfl (yld_assign rfl rfl) ?_
        refine TL.done ?_
        refine NX.seq ?_
        refine WC.ret' ?_
        refine NX.blk_r ?_
        refine NX.then_r ?_
        obtain rfl := Option.some.inj hF
        exact NX.end (rs := [.tmp 6]) (vs := [.int .i64 0]) rfl ⟨rfl, trivial⟩ ⟨_, rfl, rfl, he25⟩
      · intro hc32
        replace hF := bif_f hc32 hF
        refine WC.skip' ?_
        refine NX.blk_n ?_
        refine NX.seq ?_
        refine WC.seq ?_
        refine WC.region ?_
        refine TL.yld rfl rfl (yld_assign rfl rfl) ?_
        refine TL.done ?_
        refine NX.seq ?_
        refine WC.ret' ?_
        obtain rfl := Option.some.inj hF
        exact NX.end (rs := [.tmp 6]) (vs := [.int .i64 (-1)]) rfl ⟨rfl, trivial⟩ ⟨_, rfl, rfl, he25⟩

-- loop.example/g00861/impl.ActiveLevel
def F_impl_ActiveLevel (n : Nat) (a0_c : S_Cell) (a1_p : Int) (a2_q : Int) : Option Int := (Option.bind (F_impl_IsCell n a0_c) fun r14 => (Option.bind (bif ((!r14) || ((a0_c.Kind != 1))) then (some true) else (Option.bind (F_impl_Cell_isInput n a0_c a1_p) fun r25 => (some (!r25)))) fun c25 => (Option.bind (bif c25 then (some true) else (Option.bind (F_impl_Cell_isInput n a0_c a2_q) fun r38 => (some (!r38)))) fun c38 => (bif (c38 || ((a1_p == a2_q))) then (some (-2)) else (Option.bind (F_impl_Cell_activeLevel n a0_c a1_p a2_q) fun r58 => (some r58))))))
set_option maxHeartbeats 40000000 in
theorem W_impl_ActiveLevel {n : Nat} {a0_c : S_Cell} {a1_p : Int} {a2_q : Int} {r : Int} {w : World} {v1 : Value} {v3 : Value} {v5 : Value} (hF : F_impl_ActiveLevel n a0_c a1_p a2_q = some r) (ha2 : slRep C_Pin w (Iv 0 w.heap.size) a0_c.Pins v1) (ha4 : slRep C_Arc w (Iv 0 w.heap.size) a0_c.Arcs v3) (ha6 : slRep (cInt .i64) w (Iv 0 w.heap.size) a0_c.Truth v5) :
    Calls Tryz.prog 7 [.agg #[.string a0_c.Name, .int .i64 a0_c.Kind, v1, v3, v5, .int .i64 a0_c.Leak, .int .i64 a0_c.Energy], .int .i64 a1_p, .int .i64 a2_q].toArray w (Ret fun u w2 => u = .int .i64 r ∧ Ext w w2) := by
  refine calls_of Tryz.func7 rfl Tryz.ntmps7 ?_
  have he0 : Ext w w := Ext.refl w
  unfold F_impl_ActiveLevel at hF
  refine WC.seq ?_
  refine WC.region ?_
  refine TL.eff rfl rfl (eff_box rfl rfl) ?_
  rintro _ w8 ⟨b7, rfl, hn9⟩
  obtain ⟨hn9e, hn9s, hn9x, hb10⟩ := hn9
  have hb10 : Box w8 b7 [.string a0_c.Name, .int .i64 a0_c.Kind, v1, v3, v5, .int .i64 a0_c.Leak, .int .i64 a0_c.Energy] 32 := hb10
  have he12 : Ext w w8 := Ext.trans he0 hn9x
  have hz13 := (hn9x).size
  have hlo11 : w.heap.size ≤ b7 := by rw [hn9e]; exact (he0).size
  refine TL.yld rfl rfl (yld_assign rfl rfl) ?_
  refine TL.done ?_
  refine NX.seq ?_
  refine WC.seq ?_
  refine WC.seq ?_
  refine WC.region ?_
  refine TL.yld rfl rfl (yld_loadN (us := [.string a0_c.Name, .int .i64 a0_c.Kind, v1, v3, v5, .int .i64 a0_c.Leak, .int .i64 a0_c.Energy]) rfl ag_32 rfl (Box.cells hb10) cn_32) ?_
  obtain ⟨r14, hr15, hF⟩ := bsome hF
  refine TL.eff rfl rfl (eff_call rfl gf_18 rfl (W_impl_IsCell hr15 ((slRep.old ha2 he12 (Nat.le_refl _)).wide (Nat.le_refl _) (he12).size) ((slRep.old ha4 he12 (Nat.le_refl _)).wide (Nat.le_refl _) (he12).size) ((slRep.old ha6 he12 (Nat.le_refl _)).wide (Nat.le_refl _) (he12).size))) ?_
  rintro _ w16 ⟨rfl, hx17⟩
  have he18 : Ext w w16 := Ext.trans he12 hx17
  have hb10 := Box.ext hb10 hx17
  have hz19 := (hx17).size
  refine TL.yld rfl rfl (yld_not rfl rfl) ?_
  refine TL.yld rfl rfl (yld_move rfl rfl) ?_
  refine TL.cut 4 [(1, .int .i64 a1_p), (2, .int .i64 a2_q), (3, .pointer (some ⟨b7, 0, none⟩)), (14, .bool (((!r14) || ((a0_c.Kind != 1)))))] (fun w' => Ext w16 w') ?_ ?_
  · rcases Bool.eq_false_or_eq_true (!r14) with hg20 | hg20
    ·
      refine TL.gnu (j := 3) (t := 10) rfl rfl rfl hg20 rfl ?_
      refine TL.gnu (j := 3) (t := 10) rfl rfl rfl hg20 rfl ?_
      refine TL.gnu (j := 3) (t := 10) rfl rfl rfl hg20 rfl ?_
      refine TL.yld rfl rfl (yld_or_t (b2 := (a0_c.Kind != 1)) rfl rfl hg20 rfl) ?_
      exact TL.nil fun a h => ⟨h.weaken ⟨rfl, rfl, rfl, rfl, trivial⟩, Ext.refl _⟩
    ·
      refine TL.gy (j := 3) (t := 10) rfl rfl rfl hg20 rfl (yld_fieldAddr rfl fo_32_1 rfl) ?_
      refine TL.gy (j := 3) (t := 10) rfl rfl rfl hg20 rfl (yld_load1 1 rfl ag_2 rfl (Box.cells hb10) rfl rfl) ?_
      refine TL.gy (j := 3) (t := 10) rfl rfl rfl hg20 rfl (yld_neq rfl rfl rfl) ?_
      refine TL.yld rfl rfl (yld_or_f rfl rfl hg20 rfl) ?_
      exact TL.nil fun a h => ⟨h.weaken ⟨rfl, rfl, rfl, rfl, trivial⟩, Ext.refl _⟩
  intro w21 hx22
  have he23 : Ext w w21 := Ext.trans he18 hx22
  have hb10 := Box.ext hb10 hx22
  have hz24 := (hx22).size
  refine TL.yld rfl rfl (yld_move rfl rfl) ?_
  obtain ⟨c25, hb26, hF⟩ := bsome hF
  refine TL.cut 5 [(1, .int .i64 a1_p), (2, .int .i64 a2_q), (3, .pointer (some ⟨b7, 0, none⟩)), (20, .bool c25)] (fun w' => Ext w21 w') ?_ ?_
  · rcases Bool.eq_false_or_eq_true (((!r14) || ((a0_c.Kind != 1)))) with hg27 | hg27
    ·
      rw [hg27] at hb26; simp only [cond_true, cond_false] at hb26
      refine TL.gnu (j := 8) (t := 15) rfl rfl rfl hg27 rfl ?_
      refine TL.gnu (j := 8) (t := 15) rfl rfl rfl hg27 rfl ?_
      refine TL.gnu (j := 8) (t := 15) rfl rfl rfl hg27 rfl ?_
      refine TL.gnu (j := 8) (t := 15) rfl rfl rfl hg27 rfl ?_
      obtain rfl := Option.some.inj hb26
      refine TL.yld rfl rfl (yld_pick_t rfl rfl hg27 rfl) ?_
      exact TL.nil fun a h => ⟨h.weaken ⟨rfl, rfl, rfl, rfl, trivial⟩, Ext.refl _⟩
    ·
      rw [hg27] at hb26; simp only [cond_true, cond_false] at hb26
      replace hF := hb26
      refine TL.gy (j := 8) (t := 15) rfl rfl rfl hg27 rfl (yld_loadN (us := [.string a0_c.Name, .int .i64 a0_c.Kind, v1, v3, v5, .int .i64 a0_c.Leak, .int .i64 a0_c.Energy]) rfl ag_32 rfl (Box.cells hb10) cn_32) ?_
      refine TL.gy (j := 8) (t := 15) rfl rfl rfl hg27 rfl (yld_move rfl rfl) ?_
      obtain ⟨r28, hr29, hF⟩ := bsome hF
      refine TL.ge (j := 8) (t := 15) rfl rfl rfl hg27 rfl (eff_call rfl gf_19 rfl (W_impl_Cell_isInput hr29 ((slRep.old ha2 he23 (Nat.le_refl _)).wide (Nat.le_refl _) (he23).size) ((slRep.old ha4 he23 (Nat.le_refl _)).wide (Nat.le_refl _) (he23).size) ((slRep.old ha6 he23 (Nat.le_refl _)).wide (Nat.le_refl _) (he23).size))) ?_
      rintro _ w30 ⟨rfl, hx31⟩
      have hb10 := Box.ext hb10 hx31
      have hz33 := (hx31).size
      refine TL.gy (j := 8) (t := 15) rfl rfl rfl hg27 rfl (yld_not rfl rfl) ?_
      obtain rfl := Option.some.inj hF
      refine TL.yld rfl rfl (yld_pick_f rfl rfl hg27 rfl) ?_
      exact TL.nil fun a h => ⟨h.weaken ⟨rfl, rfl, rfl, rfl, trivial⟩, hx31⟩
  intro w34 hx35
  have he36 : Ext w w34 := Ext.trans he23 hx35
  have hb10 := Box.ext hb10 hx35
  have hz37 := (hx35).size
  refine TL.yld rfl rfl (yld_move rfl rfl) ?_
  obtain ⟨c38, hb39, hF⟩ := bsome hF
  refine TL.cut 5 [(1, .int .i64 a1_p), (2, .int .i64 a2_q), (3, .pointer (some ⟨b7, 0, none⟩)), (26, .bool c38)] (fun w' => Ext w34 w') ?_ ?_
  · rcases Bool.eq_false_or_eq_true c25 with hg40 | hg40
    ·
      rw [hg40] at hb39; simp only [cond_true, cond_false] at hb39
      refine TL.gnu (j := 14) (t := 21) rfl rfl rfl hg40 rfl ?_
      refine TL.gnu (j := 14) (t := 21) rfl rfl rfl hg40 rfl ?_
      refine TL.gnu (j := 14) (t := 21) rfl rfl rfl hg40 rfl ?_
      refine TL.gnu (j := 14) (t := 21) rfl rfl rfl hg40 rfl ?_
      obtain rfl := Option.some.inj hb39
      refine TL.yld rfl rfl (yld_pick_t rfl rfl hg40 rfl) ?_
      exact TL.nil fun a h => ⟨h.weaken ⟨rfl, rfl, rfl, rfl, trivial⟩, Ext.refl _⟩
    ·
      rw [hg40] at hb39; simp only [cond_true, cond_false] at hb39
      replace hF := hb39
      refine TL.gy (j := 14) (t := 21) rfl rfl rfl hg40 rfl (yld_loadN (us := [.string a0_c.Name, .int .i64 a0_c.Kind, v1, v3, v5, .int .i64 a0_c.Leak, .int .i64 a0_c.Energy]) rfl ag_32 rfl (Box.cells hb10) cn_32) ?_
      refine TL.gy (j := 14) (t := 21) rfl rfl rfl hg40 rfl (yld_move rfl rfl) ?_
      obtain ⟨r41, hr42, hF⟩ := bsome hF
      refine TL.ge (j := 14) (t := 21) rfl rfl rfl hg40 rfl (eff_call rfl gf_19 rfl (W_impl_Cell_isInput hr42 ((slRep.old ha2 he36 (Nat.le_refl _)).wide (Nat.le_refl _) (he36).size) ((slRep.old ha4 he36 (Nat.le_refl _)).wide (Nat.le_refl _) (he36).size) ((slRep.old ha6 he36 (Nat.le_refl _)).wide (Nat.le_refl _) (he36).size))) ?_
      rintro _ w43 ⟨rfl, hx44⟩
      have hb10 := Box.ext hb10 hx44
      have hz46 := (hx44).size
      refine TL.gy (j := 14) (t := 21) rfl rfl rfl hg40 rfl (yld_not rfl rfl) ?_
      obtain rfl := Option.some.inj hF
      refine TL.yld rfl rfl (yld_pick_f rfl rfl hg40 rfl) ?_
      exact TL.nil fun a h => ⟨h.weaken ⟨rfl, rfl, rfl, rfl, trivial⟩, hx44⟩
  intro w47 hx48
  have he49 : Ext w w47 := Ext.trans he36 hx48
  have hb10 := Box.ext hb10 hx48
  have hz50 := (hx48).size
  refine TL.yld rfl rfl (yld_move rfl rfl) ?_
  refine TL.cut 4 [(1, .int .i64 a1_p), (2, .int .i64 a2_q), (3, .pointer (some ⟨b7, 0, none⟩)), (31, .bool ((c38 || ((a1_p == a2_q)))))] (fun w' => Ext w47 w') ?_ ?_
  · rcases Bool.eq_false_or_eq_true c38 with hg51 | hg51
    ·
      refine TL.gnu (j := 20) (t := 27) rfl rfl rfl hg51 rfl ?_
      refine TL.gnu (j := 20) (t := 27) rfl rfl rfl hg51 rfl ?_
      refine TL.gnu (j := 20) (t := 27) rfl rfl rfl hg51 rfl ?_
      refine TL.yld rfl rfl (yld_or_t (b2 := (a1_p == a2_q)) rfl rfl hg51 rfl) ?_
      exact TL.nil fun a h => ⟨h.weaken ⟨rfl, rfl, rfl, rfl, trivial⟩, Ext.refl _⟩
    ·
      refine TL.gy (j := 20) (t := 27) rfl rfl rfl hg51 rfl (yld_move rfl rfl) ?_
      refine TL.gy (j := 20) (t := 27) rfl rfl rfl hg51 rfl (yld_move rfl rfl) ?_
      refine TL.gy (j := 20) (t := 27) rfl rfl rfl hg51 rfl (yld_eql rfl rfl rfl) ?_
      refine TL.yld rfl rfl (yld_or_f rfl rfl hg51 rfl) ?_
      exact TL.nil fun a h => ⟨h.weaken ⟨rfl, rfl, rfl, rfl, trivial⟩, Ext.refl _⟩
  intro w52 hx53
  have he54 : Ext w w52 := Ext.trans he49 hx53
  have hb10 := Box.ext hb10 hx53
  have hz55 := (hx53).size
  refine TL.done ?_
  refine NX.seq ?_
  refine WC.cond rfl ?_ ?_
  · intro hc56
    replace hF := bif_t hc56 hF
    refine WC.seq ?_
    refine WC.region ?_
    refine TL.yld rfl rfl (yld_assign rfl rfl) ?_
    refine TL.done ?_
    refine NX.seq ?_
    refine WC.ret' ?_
    refine NX.then_r ?_
    obtain rfl := Option.some.inj hF
    exact NX.end (rs := [.tmp 6]) (vs := [.int .i64 (-2)]) rfl ⟨rfl, trivial⟩ ⟨_, rfl, rfl, he54⟩
  · intro hc57
    replace hF := bif_f hc57 hF
    refine WC.skip' ?_
    refine NX.seq ?_
    refine WC.seq ?_
    refine WC.region ?_
    refine TL.yld rfl rfl (yld_loadN (us := [.string a0_c.Name, .int .i64 a0_c.Kind, v1, v3, v5, .int .i64 a0_c.Leak, .int .i64 a0_c.Energy]) rfl ag_32 rfl (Box.cells hb10) cn_32) ?_
    refine TL.yld rfl rfl (yld_move rfl rfl) ?_
    refine TL.yld rfl rfl (yld_move rfl rfl) ?_
    obtain ⟨r58, hr59, hF⟩ := bsome hF
    refine TL.eff rfl rfl (eff_call rfl gf_20 rfl (W_impl_Cell_activeLevel hr59 ((slRep.old ha2 he54 (Nat.le_refl _)).wide (Nat.le_refl _) (he54).size) ((slRep.old ha4 he54 (Nat.le_refl _)).wide (Nat.le_refl _) (he54).size) ((slRep.old ha6 he54 (Nat.le_refl _)).wide (Nat.le_refl _) (he54).size))) ?_
    rintro _ w60 ⟨rfl, hx61⟩
    have he62 : Ext w w60 := Ext.trans he54 hx61
    have hz63 := (hx61).size
    refine TL.yld rfl rfl (yld_assign rfl rfl) ?_
    refine TL.done ?_
    refine NX.seq ?_
    refine WC.ret' ?_
    obtain rfl := Option.some.inj hF
    exact NX.end (rs := [.tmp 6]) (vs := [.int .i64 r58]) rfl ⟨rfl, trivial⟩ ⟨_, rfl, rfl, he62⟩

-- loop.example/g00861/laws.eqPin
def F_laws_eqPin (n : Nat) (a0_a : S_Pin) (a1_b : S_Pin) : Option Bool := (bif (a0_a.Name.toList != a1_b.Name.toList) then (some false) else (bif (a0_a.Dir != a1_b.Dir) then (some false) else (bif (a0_a.Cap != a1_b.Cap) then (some false) else (bif (a0_a.Clock != a1_b.Clock) then (some false) else (some true)))))
set_option maxHeartbeats 40000000 in
theorem W_laws_eqPin {n : Nat} {a0_a : S_Pin} {a1_b : S_Pin} {r : Bool} {w : World} (hF : F_laws_eqPin n a0_a a1_b = some r) :
    Calls Tryz.prog 41 [.agg #[.string a0_a.Name, .int .i64 a0_a.Dir, .int .i64 a0_a.Cap, .bool a0_a.Clock], .agg #[.string a1_b.Name, .int .i64 a1_b.Dir, .int .i64 a1_b.Cap, .bool a1_b.Clock]].toArray w (Ret fun u w2 => u = .bool r ∧ Ext w w2) := by
  refine calls_of Tryz.func41 rfl Tryz.ntmps41 ?_
  have he0 : Ext w w := Ext.refl w
  unfold F_laws_eqPin at hF
  refine WC.seq ?_
  refine WC.region ?_
  refine TL.eff rfl rfl (eff_box rfl rfl) ?_
  rintro _ w2 ⟨b1, rfl, hn3⟩
  obtain ⟨hn3e, hn3s, hn3x, hb4⟩ := hn3
  have hb4 : Box w2 b1 [.string a0_a.Name, .int .i64 a0_a.Dir, .int .i64 a0_a.Cap, .bool a0_a.Clock] 67 := hb4
  have he6 : Ext w w2 := Ext.trans he0 hn3x
  have hz7 := (hn3x).size
  have hlo5 : w.heap.size ≤ b1 := by rw [hn3e]; exact (he0).size
  refine TL.eff rfl rfl (eff_box rfl rfl) ?_
  rintro _ w9 ⟨b8, rfl, hn10⟩
  obtain ⟨hn10e, hn10s, hn10x, hb11⟩ := hn10
  have hb11 : Box w9 b8 [.string a1_b.Name, .int .i64 a1_b.Dir, .int .i64 a1_b.Cap, .bool a1_b.Clock] 67 := hb11
  have he13 : Ext w w9 := Ext.trans he6 hn10x
  have hb4 := Box.ext hb4 hn10x
  have hz14 := (hn10x).size
  have hlo12 : w.heap.size ≤ b8 := by rw [hn10e]; exact (he6).size
  refine TL.yld rfl rfl (yld_assign rfl rfl) ?_
  refine TL.done ?_
  refine NX.seq ?_
  refine WC.seq ?_
  refine WC.seq ?_
  refine WC.region ?_
  refine TL.yld rfl rfl (yld_fieldAddr rfl fo_67_0 rfl) ?_
  refine TL.yld rfl rfl (yld_load1 0 rfl ag_9 rfl (Box.cells hb4) rfl rfl) ?_
  refine TL.yld rfl rfl (yld_fieldAddr rfl fo_67_0 rfl) ?_
  refine TL.yld rfl rfl (yld_load1 0 rfl ag_9 rfl (Box.cells hb11) rfl rfl) ?_
  refine TL.yld rfl rfl (yld_nes rfl rfl rfl) ?_
  refine TL.done ?_
  refine NX.seq ?_
  refine WC.cond rfl ?_ ?_
  · intro hc15
    replace hF := bif_t hc15 hF
    refine WC.seq ?_
    refine WC.region ?_
    refine TL.yld rfl rfl (yld_assign rfl rfl) ?_
    refine TL.done ?_
    refine NX.seq ?_
    refine WC.ret' ?_
    refine NX.then_r ?_
    obtain rfl := Option.some.inj hF
    exact NX.end (rs := [.tmp 4]) (vs := [.bool false]) rfl ⟨rfl, trivial⟩ ⟨_, rfl, rfl, he13⟩
  · intro hc16
    replace hF := bif_f hc16 hF
    refine WC.skip' ?_
    refine NX.seq ?_
    refine WC.seq ?_
    refine WC.seq ?_
    refine WC.region ?_
    refine TL.yld rfl rfl (yld_fieldAddr rfl fo_67_1 rfl) ?_
    refine TL.yld rfl rfl (yld_load1 1 rfl ag_2 rfl (Box.cells hb4) rfl rfl) ?_
    refine TL.yld rfl rfl (yld_fieldAddr rfl fo_67_1 rfl) ?_
    refine TL.yld rfl rfl (yld_load1 1 rfl ag_2 rfl (Box.cells hb11) rfl rfl) ?_
    refine TL.yld rfl rfl (yld_neq rfl rfl rfl) ?_
    refine TL.done ?_
    refine NX.seq ?_
    refine WC.cond rfl ?_ ?_
    · intro hc17
      replace hF := bif_t hc17 hF
      refine WC.seq ?_
      refine WC.region ?_
      refine TL.yld rfl rfl (yld_assign rfl rfl) ?_
      refine TL.done ?_
      refine NX.seq ?_
      refine WC.ret' ?_
      refine NX.then_r ?_
      obtain rfl := Option.some.inj hF
      exact NX.end (rs := [.tmp 4]) (vs := [.bool false]) rfl ⟨rfl, trivial⟩ ⟨_, rfl, rfl, he13⟩
    · intro hc18
      replace hF := bif_f hc18 hF
      refine WC.skip' ?_
      refine NX.seq ?_
      refine WC.seq ?_
      refine WC.seq ?_
      refine WC.region ?_
      refine TL.yld rfl rfl (yld_fieldAddr rfl fo_67_2 rfl) ?_
      refine TL.yld rfl rfl (yld_load1 2 rfl ag_2 rfl (Box.cells hb4) rfl rfl) ?_
      refine TL.yld rfl rfl (yld_fieldAddr rfl fo_67_2 rfl) ?_
      refine TL.yld rfl rfl (yld_load1 2 rfl ag_2 rfl (Box.cells hb11) rfl rfl) ?_
      refine TL.yld rfl rfl (yld_neq rfl rfl rfl) ?_
      refine TL.done ?_
      refine NX.seq ?_
      refine WC.cond rfl ?_ ?_
      · intro hc19
        replace hF := bif_t hc19 hF
        refine WC.seq ?_
        refine WC.region ?_
        refine TL.yld rfl rfl (yld_assign rfl rfl) ?_
        refine TL.done ?_
        refine NX.seq ?_
        refine WC.ret' ?_
        refine NX.then_r ?_
        obtain rfl := Option.some.inj hF
        exact NX.end (rs := [.tmp 4]) (vs := [.bool false]) rfl ⟨rfl, trivial⟩ ⟨_, rfl, rfl, he13⟩
      · intro hc20
        replace hF := bif_f hc20 hF
        refine WC.skip' ?_
        refine NX.seq ?_
        refine WC.seq ?_
        refine WC.seq ?_
        refine WC.region ?_
        refine TL.yld rfl rfl (yld_fieldAddr rfl fo_67_3 rfl) ?_
        refine TL.yld rfl rfl (yld_load1 3 rfl ag_4 rfl (Box.cells hb4) rfl rfl) ?_
        refine TL.yld rfl rfl (yld_fieldAddr rfl fo_67_3 rfl) ?_
        refine TL.yld rfl rfl (yld_load1 3 rfl ag_4 rfl (Box.cells hb11) rfl rfl) ?_
        refine TL.yld rfl rfl (yld_neb rfl Tryz.underlying4 rfl rfl) ?_
        refine TL.done ?_
        refine NX.seq ?_
        refine WC.cond rfl ?_ ?_
        · intro hc21
          replace hF := bif_t hc21 hF
          refine WC.seq ?_
          refine WC.region ?_
          refine TL.yld rfl rfl (yld_assign rfl rfl) ?_
          refine TL.done ?_
          refine NX.seq ?_
          refine WC.ret' ?_
          refine NX.then_r ?_
          obtain rfl := Option.some.inj hF
          exact NX.end (rs := [.tmp 4]) (vs := [.bool false]) rfl ⟨rfl, trivial⟩ ⟨_, rfl, rfl, he13⟩
        · intro hc22
          replace hF := bif_f hc22 hF
          refine WC.skip' ?_
          refine NX.seq ?_
          refine WC.seq ?_
          refine WC.region ?_
          refine TL.yld rfl rfl (yld_assign rfl rfl) ?_
          refine TL.done ?_
          refine NX.seq ?_
          refine WC.ret' ?_
          obtain rfl := Option.some.inj hF
          exact NX.end (rs := [.tmp 4]) (vs := [.bool true]) rfl ⟨rfl, trivial⟩ ⟨_, rfl, rfl, he13⟩

-- loop.example/g00861/laws.eqPinS
def F_laws_eqPinS_L1 (n : Nat) (a0_a : List S_Pin) (a1_b : List S_Pin) (k0 : Int → Option Bool) : Nat → Int → Option Bool
  | 0 => fun _ => none
  | m + 1 => fun i9 => (bif decide (i9 < (a0_a.length : Int)) then (Option.bind (getI a0_a i9) fun x11 => (Option.bind (getI a1_b i9) fun x19 => (Option.bind (F_laws_eqPin n x11 x19) fun r27 => (bif (!r27) then (some false) else (F_laws_eqPinS_L1 n a0_a a1_b k0 m (IntKind.wrap IntKind.i64 (i9 + 1))))))) else (k0 i9))
theorem F_laws_eqPinS_L1_z (n : Nat) (a0_a : List S_Pin) (a1_b : List S_Pin) (k0 : Int → Option Bool) (i9 : Int) : F_laws_eqPinS_L1 n a0_a a1_b k0 0 i9 = none := rfl
theorem F_laws_eqPinS_L1_s (m : Nat) (n : Nat) (a0_a : List S_Pin) (a1_b : List S_Pin) (k0 : Int → Option Bool) (i9 : Int) : F_laws_eqPinS_L1 n a0_a a1_b k0 (m + 1) i9 = (bif decide (i9 < (a0_a.length : Int)) then (Option.bind (getI a0_a i9) fun x11 => (Option.bind (getI a1_b i9) fun x19 => (Option.bind (F_laws_eqPin n x11 x19) fun r27 => (bif (!r27) then (some false) else (F_laws_eqPinS_L1 n a0_a a1_b k0 m (IntKind.wrap IntKind.i64 (i9 + 1))))))) else (k0 i9)) := rfl

def F_laws_eqPinS (n : Nat) (a0_a : List S_Pin) (a1_b : List S_Pin) : Option Bool := (bif (((a0_a.length : Int)) != ((a1_b.length : Int))) then (some false) else (F_laws_eqPinS_L1 n a0_a a1_b (fun i9 => (some true)) n 0))
set_option maxHeartbeats 40000000 in
theorem W_laws_eqPinS {n : Nat} {a0_a : List S_Pin} {a1_b : List S_Pin} {r : Bool} {w : World} {v1 : Value} {v3 : Value} (hF : F_laws_eqPinS n a0_a a1_b = some r) (ha2 : slRep C_Pin w (Iv 0 w.heap.size) a0_a v1) (ha4 : slRep C_Pin w (Iv 0 w.heap.size) a1_b v3) :
    Calls Tryz.prog 21 [v1, v3].toArray w (Ret fun u w2 => u = .bool r ∧ Ext w w2) := by
  refine calls_of Tryz.func21 rfl Tryz.ntmps21 ?_
  have he0 : Ext w w := Ext.refl w
  unfold F_laws_eqPinS at hF
  refine WC.seq ?_
  refine WC.region ?_
  refine TL.yld rfl rfl (yld_assign rfl rfl) ?_
  refine TL.done ?_
  refine NX.seq ?_
  refine WC.seq ?_
  refine WC.seq ?_
  refine WC.region ?_
  refine TL.yld rfl rfl (yld_move rfl rfl) ?_
  refine TL.yld rfl rfl (ye_len (c := C_Pin) rfl Tryz.underlying29 rfl (slRep.old ha2 he0 (Nat.le_refl _))) ?_
  refine TL.yld rfl rfl (yld_move rfl rfl) ?_
  refine TL.yld rfl rfl (ye_len (c := C_Pin) rfl Tryz.underlying29 rfl (slRep.old ha4 he0 (Nat.le_refl _))) ?_
  refine TL.yld rfl rfl (yld_neq rfl rfl rfl) ?_
  refine TL.done ?_
  refine NX.seq ?_
  refine WC.cond rfl ?_ ?_
  · intro hc5
    replace hF := bif_t hc5 hF
    refine WC.seq ?_
    refine WC.region ?_
    refine TL.yld rfl rfl (yld_assign rfl rfl) ?_
    refine TL.done ?_
    refine NX.seq ?_
    refine WC.ret' ?_
    refine NX.then_r ?_
    obtain rfl := Option.some.inj hF
    exact NX.end (rs := [.tmp 4]) (vs := [.bool false]) rfl ⟨rfl, trivial⟩ ⟨_, rfl, rfl, he0⟩
  · intro hc6
    replace hF := bif_f hc6 hF
    refine WC.skip' ?_
    refine NX.seq ?_
    refine WC.seq ?_
    refine WC.seq ?_
    refine WC.region ?_
    refine TL.yld rfl rfl (yld_assign rfl rfl) ?_
    refine TL.done ?_
    refine NX.seq ?_
    refine WC.block ?_
    refine WC.loop (fun m10 a wl => ∃ (i9 : Int), Kn 27 [(0, v1), (1, v3), (5, .int .i64 i9)] a ∧ Ext w wl ∧ w.heap.size ≤ wl.heap.size ∧ F_laws_eqPinS_L1 n a0_a a1_b (fun i9 => (some true)) m10 i9 = some r) n ?_ ?_
    · intro a hK; exact ⟨0, hK.weaken ⟨rfl, rfl, rfl, trivial⟩, he0, Nat.le_refl _, hF⟩
    · rintro m10 a w7 ⟨i9, hK, he8, hz11, hF⟩
      revert hK; revert a; refine (?_ : WC _ _ _ _ _ _)
      cases m10 with
      | zero => rw [F_laws_eqPinS_L1_z] at hF; cases hF
      | succ m10 =>
        rw [F_laws_eqPinS_L1_s] at hF
        refine WC.seq ?_
        refine WC.seq ?_
        refine WC.region ?_
        refine TL.yld rfl rfl (yld_move rfl rfl) ?_
        refine TL.yld rfl rfl (yld_move rfl rfl) ?_
        refine TL.yld rfl rfl (ye_len (c := C_Pin) rfl Tryz.underlying29 rfl (slRep.old ha2 he8 (Nat.le_refl _))) ?_
        refine TL.yld rfl rfl (yld_lss rfl rfl rfl) ?_
        refine TL.done ?_
        refine NX.seq ?_
        refine WC.cond rfl ?_ ?_
        · intro hc12
          replace hF := bif_t hc12 hF
          refine WC.skip' ?_
          refine NX.seq ?_
          refine WC.seq ?_
          refine WC.block ?_
          refine WC.seq ?_
          refine WC.quiet Tryz.hm (by kernel_rfl) ?_
          refine QL.yld rfl rfl (Yld.qui (yld_move rfl rfl)) ?_
          refine QL.yld rfl rfl (Yld.qui (yld_move rfl rfl)) ?_
          obtain ⟨x13, hy14, hF⟩ := bsome hF
          refine QL.ye rfl rfl (ye_index (c := C_Pin) rfl Tryz.underlying29 cn_67 rfl rfl (slRep.old ha2 he8 (Nat.le_refl _)) hy14) ?_
          rintro _ ⟨b15, o16, us17, rfl, hib20, hr18, hcl19⟩
          have hib20 : 0 ≤ b15 ∧ b15 < w.heap.size := ⟨hib20.1, by have := hib20.2; omega⟩
          obtain rfl := C_Pin_open hr18
          refine QL.yld rfl rfl (Yld.qui (yld_loadN (us := [.string x13.Name, .int .i64 x13.Dir, .int .i64 x13.Cap, .bool x13.Clock]) rfl ag_67 rfl hcl19 cn_67)) ?_
          refine QL.yld rfl rfl (Yld.qui (yld_move rfl rfl)) ?_
          refine QL.yld rfl rfl (Yld.qui (yld_move rfl rfl)) ?_
          obtain ⟨x21, hy22, hF⟩ := bsome hF
          refine QL.ye rfl rfl (ye_index (c := C_Pin) rfl Tryz.underlying29 cn_67 rfl rfl (slRep.old ha4 he8 (Nat.le_refl _)) hy22) ?_
          rintro _ ⟨b23, o24, us25, rfl, hib28, hr26, hcl27⟩
          have hib28 : 0 ≤ b23 ∧ b23 < w.heap.size := ⟨hib28.1, by have := hib28.2; omega⟩
          obtain rfl := C_Pin_open hr26
          refine QL.yld rfl rfl (Yld.qui (yld_loadN (us := [.string x21.Name, .int .i64 x21.Dir, .int .i64 x21.Cap, .bool x21.Clock]) rfl ag_67 rfl hcl27 cn_67)) ?_
          obtain ⟨r29, hr30, hF⟩ := bsome hF
          refine QL.yld rfl rfl (qui_call rfl gf_41 rfl fun w' hw' => W_laws_eqPin hr30) ?_
          refine QL.yld rfl rfl (Yld.qui (yld_not rfl rfl)) ?_
          refine QL.done fun w31 hx32 => ?_
          have he33 : Ext w w31 := Ext.trans he8 hx32
          have hz34 := (hx32).size
          refine NX.seq ?_
          refine WC.cond rfl ?_ ?_
          · intro hc35
            replace hF := bif_t hc35 hF
            refine WC.seq ?_
            refine WC.region ?_
            refine TL.yld rfl rfl (yld_assign rfl rfl) ?_
            refine TL.done ?_
            refine NX.seq ?_
            refine WC.ret' ?_
            refine NX.blk_r ?_
            refine NX.then_r ?_
            refine NX.then_r ?_
            refine NX.blk_r ?_
            refine NX.then_r ?_
            obtain rfl := Option.some.inj hF
            exact NX.end (rs := [.tmp 4]) (vs := [.bool false]) rfl ⟨rfl, trivial⟩ ⟨_, rfl, rfl, he33⟩
          · intro hc36
            replace hF := bif_f hc36 hF
            refine WC.skip' ?_
            refine NX.blk_n ?_
            refine NX.seq ?_
            refine WC.region ?_
            refine TL.yld rfl rfl (yld_move rfl rfl) ?_
            refine TL.yld rfl rfl (yld_add rfl rfl rfl) ?_
            refine TL.yld rfl rfl (yld_assign rfl rfl) ?_
            refine TL.done ?_
            refine NX.then_n ?_
            intro a hK; exact ⟨m10, Nat.lt_succ_self m10, (IntKind.wrap IntKind.i64 (i9 + 1)), hK.weaken ⟨rfl, rfl, rfl, trivial⟩, he33, (by omega), hF⟩
        · intro hc37
          replace hF := bif_f hc37 hF
          refine WC.exit' ?_
          refine NX.then_e ?_
          refine NX.then_e ?_
          refine NX.blk_hit ?_
          refine NX.seq ?_
          refine WC.seq ?_
          refine WC.region ?_
          refine TL.yld rfl rfl (yld_assign rfl rfl) ?_
          refine TL.done ?_
          refine NX.seq ?_
          refine WC.ret' ?_
          obtain rfl := Option.some.inj hF
          exact NX.end (rs := [.tmp 4]) (vs := [.bool true]) rfl ⟨rfl, trivial⟩ ⟨_, rfl, rfl, he8⟩

-- loop.example/g00861/laws.eqInt64S
def F_laws_eqInt64S_L1 (a0_a : List Int) (a1_b : List Int) (k0 : Int → Option Bool) : Nat → Int → Option Bool
  | 0 => fun _ => none
  | m + 1 => fun i9 => (bif decide (i9 < (a0_a.length : Int)) then (Option.bind (getI a0_a i9) fun x11 => (Option.bind (getI a1_b i9) fun x19 => (bif (x11 != x19) then (some false) else (F_laws_eqInt64S_L1 a0_a a1_b k0 m (IntKind.wrap IntKind.i64 (i9 + 1)))))) else (k0 i9))
theorem F_laws_eqInt64S_L1_z (a0_a : List Int) (a1_b : List Int) (k0 : Int → Option Bool) (i9 : Int) : F_laws_eqInt64S_L1 a0_a a1_b k0 0 i9 = none := rfl
theorem F_laws_eqInt64S_L1_s (m : Nat) (a0_a : List Int) (a1_b : List Int) (k0 : Int → Option Bool) (i9 : Int) : F_laws_eqInt64S_L1 a0_a a1_b k0 (m + 1) i9 = (bif decide (i9 < (a0_a.length : Int)) then (Option.bind (getI a0_a i9) fun x11 => (Option.bind (getI a1_b i9) fun x19 => (bif (x11 != x19) then (some false) else (F_laws_eqInt64S_L1 a0_a a1_b k0 m (IntKind.wrap IntKind.i64 (i9 + 1)))))) else (k0 i9)) := rfl

def F_laws_eqInt64S (n : Nat) (a0_a : List Int) (a1_b : List Int) : Option Bool := (bif (((a0_a.length : Int)) != ((a1_b.length : Int))) then (some false) else (F_laws_eqInt64S_L1 a0_a a1_b (fun i9 => (some true)) n 0))
set_option maxHeartbeats 40000000 in
theorem W_laws_eqInt64S {n : Nat} {a0_a : List Int} {a1_b : List Int} {r : Bool} {w : World} {v1 : Value} {v3 : Value} (hF : F_laws_eqInt64S n a0_a a1_b = some r) (ha2 : slRep (cInt .i64) w (Iv 0 w.heap.size) a0_a v1) (ha4 : slRep (cInt .i64) w (Iv 0 w.heap.size) a1_b v3) :
    Calls Tryz.prog 23 [v1, v3].toArray w (Ret fun u w2 => u = .bool r ∧ Ext w w2) := by
  refine calls_of Tryz.func23 rfl Tryz.ntmps23 ?_
  have he0 : Ext w w := Ext.refl w
  unfold F_laws_eqInt64S at hF
  refine WC.seq ?_
  refine WC.region ?_
  refine TL.yld rfl rfl (yld_assign rfl rfl) ?_
  refine TL.done ?_
  refine NX.seq ?_
  refine WC.seq ?_
  refine WC.seq ?_
  refine WC.region ?_
  refine TL.yld rfl rfl (yld_move rfl rfl) ?_
  refine TL.yld rfl rfl (ye_len (c := (cInt .i64)) rfl Tryz.underlying24 rfl (slRep.old ha2 he0 (Nat.le_refl _))) ?_
  refine TL.yld rfl rfl (yld_move rfl rfl) ?_
  refine TL.yld rfl rfl (ye_len (c := (cInt .i64)) rfl Tryz.underlying24 rfl (slRep.old ha4 he0 (Nat.le_refl _))) ?_
  refine TL.yld rfl rfl (yld_neq rfl rfl rfl) ?_
  refine TL.done ?_
  refine NX.seq ?_
  refine WC.cond rfl ?_ ?_
  · intro hc5
    replace hF := bif_t hc5 hF
    refine WC.seq ?_
    refine WC.region ?_
    refine TL.yld rfl rfl (yld_assign rfl rfl) ?_
    refine TL.done ?_
    refine NX.seq ?_
    refine WC.ret' ?_
    refine NX.then_r ?_
    obtain rfl := Option.some.inj hF
    exact NX.end (rs := [.tmp 4]) (vs := [.bool false]) rfl ⟨rfl, trivial⟩ ⟨_, rfl, rfl, he0⟩
  · intro hc6
    replace hF := bif_f hc6 hF
    refine WC.skip' ?_
    refine NX.seq ?_
    refine WC.seq ?_
    refine WC.seq ?_
    refine WC.region ?_
    refine TL.yld rfl rfl (yld_assign rfl rfl) ?_
    refine TL.done ?_
    refine NX.seq ?_
    refine WC.block ?_
    refine WC.loop (fun m10 a wl => ∃ (i9 : Int), Kn 26 [(0, v1), (1, v3), (5, .int .i64 i9)] a ∧ Ext w wl ∧ w.heap.size ≤ wl.heap.size ∧ F_laws_eqInt64S_L1 a0_a a1_b (fun i9 => (some true)) m10 i9 = some r) n ?_ ?_
    · intro a hK; exact ⟨0, hK.weaken ⟨rfl, rfl, rfl, trivial⟩, he0, Nat.le_refl _, hF⟩
    · rintro m10 a w7 ⟨i9, hK, he8, hz11, hF⟩
      revert hK; revert a; refine (?_ : WC _ _ _ _ _ _)
      cases m10 with
      | zero => rw [F_laws_eqInt64S_L1_z] at hF; cases hF
      | succ m10 =>
        rw [F_laws_eqInt64S_L1_s] at hF
        refine WC.seq ?_
        refine WC.seq ?_
        refine WC.region ?_
        refine TL.yld rfl rfl (yld_move rfl rfl) ?_
        refine TL.yld rfl rfl (yld_move rfl rfl) ?_
        refine TL.yld rfl rfl (ye_len (c := (cInt .i64)) rfl Tryz.underlying24 rfl (slRep.old ha2 he8 (Nat.le_refl _))) ?_
        refine TL.yld rfl rfl (yld_lss rfl rfl rfl) ?_
        refine TL.done ?_
        refine NX.seq ?_
        refine WC.cond rfl ?_ ?_
        · intro hc12
          replace hF := bif_t hc12 hF
          refine WC.skip' ?_
          refine NX.seq ?_
          refine WC.seq ?_
          refine WC.block ?_
          refine WC.seq ?_
          refine WC.quiet Tryz.hm (by kernel_rfl) ?_
          refine QL.yld rfl rfl (Yld.qui (yld_move rfl rfl)) ?_
          refine QL.yld rfl rfl (Yld.qui (yld_move rfl rfl)) ?_
          obtain ⟨x13, hy14, hF⟩ := bsome hF
          refine QL.ye rfl rfl (ye_index (c := (cInt .i64)) rfl Tryz.underlying24 cn_2 rfl rfl (slRep.old ha2 he8 (Nat.le_refl _)) hy14) ?_
          rintro _ ⟨b15, o16, us17, rfl, hib20, hr18, hcl19⟩
          have hib20 : 0 ≤ b15 ∧ b15 < w.heap.size := ⟨hib20.1, by have := hib20.2; omega⟩
          obtain rfl := hr18
          refine QL.yld rfl rfl (Yld.qui (yld_load1 0 rfl ag_2 rfl hcl19 rfl rfl)) ?_
          refine QL.yld rfl rfl (Yld.qui (yld_move rfl rfl)) ?_
          refine QL.yld rfl rfl (Yld.qui (yld_move rfl rfl)) ?_
          obtain ⟨x21, hy22, hF⟩ := bsome hF
          refine QL.ye rfl rfl (ye_index (c := (cInt .i64)) rfl Tryz.underlying24 cn_2 rfl rfl (slRep.old ha4 he8 (Nat.le_refl _)) hy22) ?_
          rintro _ ⟨b23, o24, us25, rfl, hib28, hr26, hcl27⟩
          have hib28 : 0 ≤ b23 ∧ b23 < w.heap.size := ⟨hib28.1, by have := hib28.2; omega⟩
          obtain rfl := hr26
          refine QL.yld rfl rfl (Yld.qui (yld_load1 0 rfl ag_2 rfl hcl27 rfl rfl)) ?_
          refine QL.yld rfl rfl (Yld.qui (yld_neq rfl rfl rfl)) ?_
          refine QL.done fun w29 hx30 => ?_
          have he31 : Ext w w29 := Ext.trans he8 hx30
          have hz32 := (hx30).size
          refine NX.seq ?_
          refine WC.cond rfl ?_ ?_
          · intro hc33
            replace hF := bif_t hc33 hF
            refine WC.seq ?_
            refine WC.region ?_
            refine TL.yld rfl rfl (yld_assign rfl rfl) ?_
            refine TL.done ?_
            refine NX.seq ?_
            refine WC.ret' ?_
            refine NX.blk_r ?_
            refine NX.then_r ?_
            refine NX.then_r ?_
            refine NX.blk_r ?_
            refine NX.then_r ?_
            obtain rfl := Option.some.inj hF
            exact NX.end (rs := [.tmp 4]) (vs := [.bool false]) rfl ⟨rfl, trivial⟩ ⟨_, rfl, rfl, he31⟩
          · intro hc34
            replace hF := bif_f hc34 hF
            refine WC.skip' ?_
            refine NX.blk_n ?_
            refine NX.seq ?_
            refine WC.region ?_
            refine TL.yld rfl rfl (yld_move rfl rfl) ?_
            refine TL.yld rfl rfl (yld_add rfl rfl rfl) ?_
            refine TL.yld rfl rfl (yld_assign rfl rfl) ?_
            refine TL.done ?_
            refine NX.then_n ?_
            intro a hK; exact ⟨m10, Nat.lt_succ_self m10, (IntKind.wrap IntKind.i64 (i9 + 1)), hK.weaken ⟨rfl, rfl, rfl, trivial⟩, he31, (by omega), hF⟩
        · intro hc35
          replace hF := bif_f hc35 hF
          refine WC.exit' ?_
          refine NX.then_e ?_
          refine NX.then_e ?_
          refine NX.blk_hit ?_
          refine NX.seq ?_
          refine WC.seq ?_
          refine WC.region ?_
          refine TL.yld rfl rfl (yld_assign rfl rfl) ?_
          refine TL.done ?_
          refine NX.seq ?_
          refine WC.ret' ?_
          obtain rfl := Option.some.inj hF
          exact NX.end (rs := [.tmp 4]) (vs := [.bool true]) rfl ⟨rfl, trivial⟩ ⟨_, rfl, rfl, he8⟩

-- loop.example/g00861/laws.eqTable
def F_laws_eqTable (n : Nat) (a0_a : S_Table) (a1_b : S_Table) : Option Bool := (Option.bind (F_laws_eqInt64S n a0_a.Slews a1_b.Slews) fun r27 => (bif (!r27) then (some false) else (Option.bind (F_laws_eqInt64S n a0_a.Loads a1_b.Loads) fun r35 => (bif (!r35) then (some false) else (Option.bind (F_laws_eqInt64S n a0_a.Values a1_b.Values) fun r43 => (bif (!r43) then (some false) else (some true)))))))
set_option maxHeartbeats 40000000 in
theorem W_laws_eqTable {n : Nat} {a0_a : S_Table} {a1_b : S_Table} {r : Bool} {w : World} {v1 : Value} {v3 : Value} {v5 : Value} {v7 : Value} {v9 : Value} {v11 : Value} (hF : F_laws_eqTable n a0_a a1_b = some r) (ha2 : slRep (cInt .i64) w (Iv 0 w.heap.size) a0_a.Slews v1) (ha4 : slRep (cInt .i64) w (Iv 0 w.heap.size) a0_a.Loads v3) (ha6 : slRep (cInt .i64) w (Iv 0 w.heap.size) a0_a.Values v5) (ha8 : slRep (cInt .i64) w (Iv 0 w.heap.size) a1_b.Slews v7) (ha10 : slRep (cInt .i64) w (Iv 0 w.heap.size) a1_b.Loads v9) (ha12 : slRep (cInt .i64) w (Iv 0 w.heap.size) a1_b.Values v11) :
    Calls Tryz.prog 75 [.agg #[v1, v3, v5], .agg #[v7, v9, v11]].toArray w (Ret fun u w2 => u = .bool r ∧ Ext w w2) := by
  refine calls_of Tryz.func75 rfl Tryz.ntmps75 ?_
  have he0 : Ext w w := Ext.refl w
  unfold F_laws_eqTable at hF
  refine WC.seq ?_
  refine WC.region ?_
  refine TL.eff rfl rfl (eff_box rfl rfl) ?_
  rintro _ w14 ⟨b13, rfl, hn15⟩
  obtain ⟨hn15e, hn15s, hn15x, hb16⟩ := hn15
  have hb16 : Box w14 b13 [v1, v3, v5] 94 := hb16
  have he18 : Ext w w14 := Ext.trans he0 hn15x
  have hz19 := (hn15x).size
  have hlo17 : w.heap.size ≤ b13 := by rw [hn15e]; exact (he0).size
  refine TL.eff rfl rfl (eff_box rfl rfl) ?_
  rintro _ w21 ⟨b20, rfl, hn22⟩
  obtain ⟨hn22e, hn22s, hn22x, hb23⟩ := hn22
  have hb23 : Box w21 b20 [v7, v9, v11] 94 := hb23
  have he25 : Ext w w21 := Ext.trans he18 hn22x
  have hb16 := Box.ext hb16 hn22x
  have hz26 := (hn22x).size
  have hlo24 : w.heap.size ≤ b20 := by rw [hn22e]; exact (he18).size
  refine TL.yld rfl rfl (yld_assign rfl rfl) ?_
  refine TL.done ?_
  refine NX.seq ?_
  refine WC.seq ?_
  refine WC.seq ?_
  refine WC.region ?_
  refine TL.yld rfl rfl (yld_fieldAddr rfl fo_94_0 rfl) ?_
  refine TL.yld rfl rfl (yld_load1 0 rfl ag_24 rfl (Box.cells hb16) rfl rfl) ?_
  refine TL.yld rfl rfl (yld_fieldAddr rfl fo_94_0 rfl) ?_
  refine TL.yld rfl rfl (yld_load1 0 rfl ag_24 rfl (Box.cells hb23) rfl rfl) ?_
  obtain ⟨r27, hr28, hF⟩ := bsome hF
  refine TL.eff rfl rfl (eff_call rfl gf_23 rfl (W_laws_eqInt64S hr28 ((slRep.old ha2 he25 (Nat.le_refl _)).wide (Nat.le_refl _) (he25).size) ((slRep.old ha8 he25 (Nat.le_refl _)).wide (Nat.le_refl _) (he25).size))) ?_
  rintro _ w29 ⟨rfl, hx30⟩
  have he31 : Ext w w29 := Ext.trans he25 hx30
  have hb16 := Box.ext hb16 hx30
  have hb23 := Box.ext hb23 hx30
  have hz32 := (hx30).size
  refine TL.yld rfl rfl (yld_not rfl rfl) ?_
  refine TL.done ?_
  refine NX.seq ?_
  refine WC.cond rfl ?_ ?_
  · intro hc33
    replace hF := bif_t hc33 hF
    refine WC.seq ?_
    refine WC.region ?_
    refine TL.yld rfl rfl (yld_assign rfl rfl) ?_
    refine TL.done ?_
    refine NX.seq ?_
    refine WC.ret' ?_
    refine NX.then_r ?_
    obtain rfl := Option.some.inj hF
    exact NX.end (rs := [.tmp 4]) (vs := [.bool false]) rfl ⟨rfl, trivial⟩ ⟨_, rfl, rfl, he31⟩
  · intro hc34
    replace hF := bif_f hc34 hF
    refine WC.skip' ?_
    refine NX.seq ?_
    refine WC.seq ?_
    refine WC.seq ?_
    refine WC.region ?_
    refine TL.yld rfl rfl (yld_fieldAddr rfl fo_94_1 rfl) ?_
    refine TL.yld rfl rfl (yld_load1 1 rfl ag_24 rfl (Box.cells hb16) rfl rfl) ?_
    refine TL.yld rfl rfl (yld_fieldAddr rfl fo_94_1 rfl) ?_
    refine TL.yld rfl rfl (yld_load1 1 rfl ag_24 rfl (Box.cells hb23) rfl rfl) ?_
    obtain ⟨r35, hr36, hF⟩ := bsome hF
    refine TL.eff rfl rfl (eff_call rfl gf_23 rfl (W_laws_eqInt64S hr36 ((slRep.old ha4 he31 (Nat.le_refl _)).wide (Nat.le_refl _) (he31).size) ((slRep.old ha10 he31 (Nat.le_refl _)).wide (Nat.le_refl _) (he31).size))) ?_
    rintro _ w37 ⟨rfl, hx38⟩
    have he39 : Ext w w37 := Ext.trans he31 hx38
    have hb16 := Box.ext hb16 hx38
    have hb23 := Box.ext hb23 hx38
    have hz40 := (hx38).size
    refine TL.yld rfl rfl (yld_not rfl rfl) ?_
    refine TL.done ?_
    refine NX.seq ?_
    refine WC.cond rfl ?_ ?_
    · intro hc41
      replace hF := bif_t hc41 hF
      refine WC.seq ?_
      refine WC.region ?_
      refine TL.yld rfl rfl (yld_assign rfl rfl) ?_
      refine TL.done ?_
      refine NX.seq ?_
      refine WC.ret' ?_
      refine NX.then_r ?_
      obtain rfl := Option.some.inj hF
      exact NX.end (rs := [.tmp 4]) (vs := [.bool false]) rfl ⟨rfl, trivial⟩ ⟨_, rfl, rfl, he39⟩
    · intro hc42
      replace hF := bif_f hc42 hF
      refine WC.skip' ?_
      refine NX.seq ?_
      refine WC.seq ?_
      refine WC.seq ?_
      refine WC.region ?_
      refine TL.yld rfl rfl (yld_fieldAddr rfl fo_94_2 rfl) ?_
      refine TL.yld rfl rfl (yld_load1 2 rfl ag_24 rfl (Box.cells hb16) rfl rfl) ?_
      refine TL.yld rfl rfl (yld_fieldAddr rfl fo_94_2 rfl) ?_
      refine TL.yld rfl rfl (yld_load1 2 rfl ag_24 rfl (Box.cells hb23) rfl rfl) ?_
      obtain ⟨r43, hr44, hF⟩ := bsome hF
      refine TL.eff rfl rfl (eff_call rfl gf_23 rfl (W_laws_eqInt64S hr44 ((slRep.old ha6 he39 (Nat.le_refl _)).wide (Nat.le_refl _) (he39).size) ((slRep.old ha12 he39 (Nat.le_refl _)).wide (Nat.le_refl _) (he39).size))) ?_
      rintro _ w45 ⟨rfl, hx46⟩
      have he47 : Ext w w45 := Ext.trans he39 hx46
      have hz48 := (hx46).size
      refine TL.yld rfl rfl (yld_not rfl rfl) ?_
      refine TL.done ?_
      refine NX.seq ?_
      refine WC.cond rfl ?_ ?_
      · intro hc49
        replace hF := bif_t hc49 hF
        refine WC.seq ?_
        refine WC.region ?_
        refine TL.yld rfl rfl (yld_assign rfl rfl) ?_
        refine TL.done ?_
        refine NX.seq ?_
        refine WC.ret' ?_
        refine NX.then_r ?_
        obtain rfl := Option.some.inj hF
        exact NX.end (rs := [.tmp 4]) (vs := [.bool false]) rfl ⟨rfl, trivial⟩ ⟨_, rfl, rfl, he47⟩
      · intro hc50
        replace hF := bif_f hc50 hF
        refine WC.skip' ?_
        refine NX.seq ?_
        refine WC.seq ?_
        refine WC.region ?_
        refine TL.yld rfl rfl (yld_assign rfl rfl) ?_
        refine TL.done ?_
        refine NX.seq ?_
        refine WC.ret' ?_
        obtain rfl := Option.some.inj hF
        exact NX.end (rs := [.tmp 4]) (vs := [.bool true]) rfl ⟨rfl, trivial⟩ ⟨_, rfl, rfl, he47⟩

-- loop.example/g00861/laws.eqTableS
def F_laws_eqTableS_L1 (n : Nat) (a0_a : List S_Table) (a1_b : List S_Table) (k0 : Int → Option Bool) : Nat → Int → Option Bool
  | 0 => fun _ => none
  | m + 1 => fun i9 => (bif decide (i9 < (a0_a.length : Int)) then (Option.bind (getI a0_a i9) fun x11 => (Option.bind (getI a1_b i9) fun x25 => (Option.bind (F_laws_eqTable n x11 x25) fun r39 => (bif (!r39) then (some false) else (F_laws_eqTableS_L1 n a0_a a1_b k0 m (IntKind.wrap IntKind.i64 (i9 + 1))))))) else (k0 i9))
theorem F_laws_eqTableS_L1_z (n : Nat) (a0_a : List S_Table) (a1_b : List S_Table) (k0 : Int → Option Bool) (i9 : Int) : F_laws_eqTableS_L1 n a0_a a1_b k0 0 i9 = none := rfl
theorem F_laws_eqTableS_L1_s (m : Nat) (n : Nat) (a0_a : List S_Table) (a1_b : List S_Table) (k0 : Int → Option Bool) (i9 : Int) : F_laws_eqTableS_L1 n a0_a a1_b k0 (m + 1) i9 = (bif decide (i9 < (a0_a.length : Int)) then (Option.bind (getI a0_a i9) fun x11 => (Option.bind (getI a1_b i9) fun x25 => (Option.bind (F_laws_eqTable n x11 x25) fun r39 => (bif (!r39) then (some false) else (F_laws_eqTableS_L1 n a0_a a1_b k0 m (IntKind.wrap IntKind.i64 (i9 + 1))))))) else (k0 i9)) := rfl

def F_laws_eqTableS (n : Nat) (a0_a : List S_Table) (a1_b : List S_Table) : Option Bool := (bif (((a0_a.length : Int)) != ((a1_b.length : Int))) then (some false) else (F_laws_eqTableS_L1 n a0_a a1_b (fun i9 => (some true)) n 0))
set_option maxHeartbeats 40000000 in
theorem W_laws_eqTableS {n : Nat} {a0_a : List S_Table} {a1_b : List S_Table} {r : Bool} {w : World} {v1 : Value} {v3 : Value} (hF : F_laws_eqTableS n a0_a a1_b = some r) (ha2 : slRep C_Table w (Iv 0 w.heap.size) a0_a v1) (ha4 : slRep C_Table w (Iv 0 w.heap.size) a1_b v3) :
    Calls Tryz.prog 55 [v1, v3].toArray w (Ret fun u w2 => u = .bool r ∧ Ext w w2) := by
  refine calls_of Tryz.func55 rfl Tryz.ntmps55 ?_
  have he0 : Ext w w := Ext.refl w
  unfold F_laws_eqTableS at hF
  refine WC.seq ?_
  refine WC.region ?_
  refine TL.yld rfl rfl (yld_assign rfl rfl) ?_
  refine TL.done ?_
  refine NX.seq ?_
  refine WC.seq ?_
  refine WC.seq ?_
  refine WC.region ?_
  refine TL.yld rfl rfl (yld_move rfl rfl) ?_
  refine TL.yld rfl rfl (ye_len (c := C_Table) rfl Tryz.underlying60 rfl (slRep.old ha2 he0 (Nat.le_refl _))) ?_
  refine TL.yld rfl rfl (yld_move rfl rfl) ?_
  refine TL.yld rfl rfl (ye_len (c := C_Table) rfl Tryz.underlying60 rfl (slRep.old ha4 he0 (Nat.le_refl _))) ?_
  refine TL.yld rfl rfl (yld_neq rfl rfl rfl) ?_
  refine TL.done ?_
  refine NX.seq ?_
  refine WC.cond rfl ?_ ?_
  · intro hc5
    replace hF := bif_t hc5 hF
    refine WC.seq ?_
    refine WC.region ?_
    refine TL.yld rfl rfl (yld_assign rfl rfl) ?_
    refine TL.done ?_
    refine NX.seq ?_
    refine WC.ret' ?_
    refine NX.then_r ?_
    obtain rfl := Option.some.inj hF
    exact NX.end (rs := [.tmp 4]) (vs := [.bool false]) rfl ⟨rfl, trivial⟩ ⟨_, rfl, rfl, he0⟩
  · intro hc6
    replace hF := bif_f hc6 hF
    refine WC.skip' ?_
    refine NX.seq ?_
    refine WC.seq ?_
    refine WC.seq ?_
    refine WC.region ?_
    refine TL.yld rfl rfl (yld_assign rfl rfl) ?_
    refine TL.done ?_
    refine NX.seq ?_
    refine WC.block ?_
    refine WC.loop (fun m10 a wl => ∃ (i9 : Int), Kn 27 [(0, v1), (1, v3), (5, .int .i64 i9)] a ∧ Ext w wl ∧ w.heap.size ≤ wl.heap.size ∧ F_laws_eqTableS_L1 n a0_a a1_b (fun i9 => (some true)) m10 i9 = some r) n ?_ ?_
    · intro a hK; exact ⟨0, hK.weaken ⟨rfl, rfl, rfl, trivial⟩, he0, Nat.le_refl _, hF⟩
    · rintro m10 a w7 ⟨i9, hK, he8, hz11, hF⟩
      revert hK; revert a; refine (?_ : WC _ _ _ _ _ _)
      cases m10 with
      | zero => rw [F_laws_eqTableS_L1_z] at hF; cases hF
      | succ m10 =>
        rw [F_laws_eqTableS_L1_s] at hF
        refine WC.seq ?_
        refine WC.seq ?_
        refine WC.region ?_
        refine TL.yld rfl rfl (yld_move rfl rfl) ?_
        refine TL.yld rfl rfl (yld_move rfl rfl) ?_
        refine TL.yld rfl rfl (ye_len (c := C_Table) rfl Tryz.underlying60 rfl (slRep.old ha2 he8 (Nat.le_refl _))) ?_
        refine TL.yld rfl rfl (yld_lss rfl rfl rfl) ?_
        refine TL.done ?_
        refine NX.seq ?_
        refine WC.cond rfl ?_ ?_
        · intro hc12
          replace hF := bif_t hc12 hF
          refine WC.skip' ?_
          refine NX.seq ?_
          refine WC.seq ?_
          refine WC.block ?_
          refine WC.seq ?_
          refine WC.quiet Tryz.hm (by kernel_rfl) ?_
          refine QL.yld rfl rfl (Yld.qui (yld_move rfl rfl)) ?_
          refine QL.yld rfl rfl (Yld.qui (yld_move rfl rfl)) ?_
          obtain ⟨x13, hy14, hF⟩ := bsome hF
          refine QL.ye rfl rfl (ye_index (c := C_Table) rfl Tryz.underlying60 cn_94 rfl rfl (slRep.old ha2 he8 (Nat.le_refl _)) hy14) ?_
          rintro _ ⟨b15, o16, us17, rfl, hib20, hr18, hcl19⟩
          have hib20 : 0 ≤ b15 ∧ b15 < w.heap.size := ⟨hib20.1, by have := hib20.2; omega⟩
          obtain ⟨v21, v22, v23, rfl, hs24, hs25, hs26⟩ := C_Table_open hr18
          refine QL.yld rfl rfl (Yld.qui (yld_loadN (us := [v21, v22, v23]) rfl ag_94 rfl hcl19 cn_94)) ?_
          refine QL.yld rfl rfl (Yld.qui (yld_move rfl rfl)) ?_
          refine QL.yld rfl rfl (Yld.qui (yld_move rfl rfl)) ?_
          obtain ⟨x27, hy28, hF⟩ := bsome hF
          refine QL.ye rfl rfl (ye_index (c := C_Table) rfl Tryz.underlying60 cn_94 rfl rfl (slRep.old ha4 he8 (Nat.le_refl _)) hy28) ?_
          rintro _ ⟨b29, o30, us31, rfl, hib34, hr32, hcl33⟩
          have hib34 : 0 ≤ b29 ∧ b29 < w.heap.size := ⟨hib34.1, by have := hib34.2; omega⟩
          obtain ⟨v35, v36, v37, rfl, hs38, hs39, hs40⟩ := C_Table_open hr32
          refine QL.yld rfl rfl (Yld.qui (yld_loadN (us := [v35, v36, v37]) rfl ag_94 rfl hcl33 cn_94)) ?_
          obtain ⟨r41, hr42, hF⟩ := bsome hF
          refine QL.yld rfl rfl (qui_call rfl gf_75 rfl fun w' hw' => W_laws_eqTable hr42 (((hs24.wide (Nat.zero_le _) (by omega))).mono (fun k h => ⟨h.1, Nat.lt_of_lt_of_le h.2 (hw').size⟩) (fun k h2 => (hw').block k h2.2)) (((hs25.wide (Nat.zero_le _) (by omega))).mono (fun k h => ⟨h.1, Nat.lt_of_lt_of_le h.2 (hw').size⟩) (fun k h2 => (hw').block k h2.2)) (((hs26.wide (Nat.zero_le _) (by omega))).mono (fun k h => ⟨h.1, Nat.lt_of_lt_of_le h.2 (hw').size⟩) (fun k h2 => (hw').block k h2.2)) (((hs38.wide (Nat.zero_le _) (by omega))).mono (fun k h => ⟨h.1, Nat.lt_of_lt_of_le h.2 (hw').size⟩) (fun k h2 => (hw').block k h2.2)) (((hs39.wide (Nat.zero_le _) (by omega))).mono (fun k h => ⟨h.1, Nat.lt_of_lt_of_le h.2 (hw').size⟩) (fun k h2 => (hw').block k h2.2)) (((hs40.wide (Nat.zero_le _) (by omega))).mono (fun k h => ⟨h.1, Nat.lt_of_lt_of_le h.2 (hw').size⟩) (fun k h2 => (hw').block k h2.2))) ?_
          refine QL.yld rfl rfl (Yld.qui (yld_not rfl rfl)) ?_
          refine QL.done fun w43 hx44 => ?_
          have he45 : Ext w w43 := Ext.trans he8 hx44
          have hz46 := (hx44).size
          refine NX.seq ?_
          refine WC.cond rfl ?_ ?_
          · intro hc47
            replace hF := bif_t hc47 hF
            refine WC.seq ?_
            refine WC.region ?_
            refine TL.yld rfl rfl (yld_assign rfl rfl) ?_
            refine TL.done ?_
            refine NX.seq ?_
            refine WC.ret' ?_
            refine NX.blk_r ?_
            refine NX.then_r ?_
            refine NX.then_r ?_
            refine NX.blk_r ?_
            refine NX.then_r ?_
            obtain rfl := Option.some.inj hF
            exact NX.end (rs := [.tmp 4]) (vs := [.bool false]) rfl ⟨rfl, trivial⟩ ⟨_, rfl, rfl, he45⟩
          · intro hc48
            replace hF := bif_f hc48 hF
            refine WC.skip' ?_
            refine NX.blk_n ?_
            refine NX.seq ?_
            refine WC.region ?_
            refine TL.yld rfl rfl (yld_move rfl rfl) ?_
            refine TL.yld rfl rfl (yld_add rfl rfl rfl) ?_
            refine TL.yld rfl rfl (yld_assign rfl rfl) ?_
            refine TL.done ?_
            refine NX.then_n ?_
            intro a hK; exact ⟨m10, Nat.lt_succ_self m10, (IntKind.wrap IntKind.i64 (i9 + 1)), hK.weaken ⟨rfl, rfl, rfl, trivial⟩, he45, (by omega), hF⟩
        · intro hc49
          replace hF := bif_f hc49 hF
          refine WC.exit' ?_
          refine NX.then_e ?_
          refine NX.then_e ?_
          refine NX.blk_hit ?_
          refine NX.seq ?_
          refine WC.seq ?_
          refine WC.region ?_
          refine TL.yld rfl rfl (yld_assign rfl rfl) ?_
          refine TL.done ?_
          refine NX.seq ?_
          refine WC.ret' ?_
          obtain rfl := Option.some.inj hF
          exact NX.end (rs := [.tmp 4]) (vs := [.bool true]) rfl ⟨rfl, trivial⟩ ⟨_, rfl, rfl, he8⟩

-- loop.example/g00861/laws.eqArc
def F_laws_eqArc (n : Nat) (a0_a : S_Arc) (a1_b : S_Arc) : Option Bool := (bif (a0_a.Kind != a1_b.Kind) then (some false) else (bif (a0_a.From != a1_b.From) then (some false) else (bif (a0_a.To != a1_b.To) then (some false) else (bif (a0_a.Sense != a1_b.Sense) then (some false) else (Option.bind (F_laws_eqTableS n a0_a.Delay a1_b.Delay) fun r31 => (bif (!r31) then (some false) else (Option.bind (F_laws_eqTableS n a0_a.Slew a1_b.Slew) fun r39 => (bif (!r39) then (some false) else (some true)))))))))
set_option maxHeartbeats 40000000 in
theorem W_laws_eqArc {n : Nat} {a0_a : S_Arc} {a1_b : S_Arc} {r : Bool} {w : World} {v1 : Value} {v3 : Value} {v5 : Value} {v7 : Value} (hF : F_laws_eqArc n a0_a a1_b = some r) (ha2 : slRep C_Table w (Iv 0 w.heap.size) a0_a.Delay v1) (ha4 : slRep C_Table w (Iv 0 w.heap.size) a0_a.Slew v3) (ha6 : slRep C_Table w (Iv 0 w.heap.size) a1_b.Delay v5) (ha8 : slRep C_Table w (Iv 0 w.heap.size) a1_b.Slew v7) :
    Calls Tryz.prog 42 [.agg #[.int .i64 a0_a.Kind, .int .i64 a0_a.From, .int .i64 a0_a.To, .int .i64 a0_a.Sense, v1, v3], .agg #[.int .i64 a1_b.Kind, .int .i64 a1_b.From, .int .i64 a1_b.To, .int .i64 a1_b.Sense, v5, v7]].toArray w (Ret fun u w2 => u = .bool r ∧ Ext w w2) := by
  refine calls_of Tryz.func42 rfl Tryz.ntmps42 ?_
  have he0 : Ext w w := Ext.refl w
  unfold F_laws_eqArc at hF
  refine WC.seq ?_
  refine WC.region ?_
  refine TL.eff rfl rfl (eff_box rfl rfl) ?_
  rintro _ w10 ⟨b9, rfl, hn11⟩
  obtain ⟨hn11e, hn11s, hn11x, hb12⟩ := hn11
  have hb12 : Box w10 b9 [.int .i64 a0_a.Kind, .int .i64 a0_a.From, .int .i64 a0_a.To, .int .i64 a0_a.Sense, v1, v3] 62 := hb12
  have he14 : Ext w w10 := Ext.trans he0 hn11x
  have hz15 := (hn11x).size
  have hlo13 : w.heap.size ≤ b9 := by rw [hn11e]; exact (he0).size
  refine TL.eff rfl rfl (eff_box rfl rfl) ?_
  rintro _ w17 ⟨b16, rfl, hn18⟩
  obtain ⟨hn18e, hn18s, hn18x, hb19⟩ := hn18
  have hb19 : Box w17 b16 [.int .i64 a1_b.Kind, .int .i64 a1_b.From, .int .i64 a1_b.To, .int .i64 a1_b.Sense, v5, v7] 62 := hb19
  have he21 : Ext w w17 := Ext.trans he14 hn18x
  have hb12 := Box.ext hb12 hn18x
  have hz22 := (hn18x).size
  have hlo20 : w.heap.size ≤ b16 := by rw [hn18e]; exact (he14).size
  refine TL.yld rfl rfl (yld_assign rfl rfl) ?_
  refine TL.done ?_
  refine NX.seq ?_
  refine WC.seq ?_
  refine WC.seq ?_
  refine WC.region ?_
  refine TL.yld rfl rfl (yld_fieldAddr rfl fo_62_0 rfl) ?_
  refine TL.yld rfl rfl (yld_load1 0 rfl ag_2 rfl (Box.cells hb12) rfl rfl) ?_
  refine TL.yld rfl rfl (yld_fieldAddr rfl fo_62_0 rfl) ?_
  refine TL.yld rfl rfl (yld_load1 0 rfl ag_2 rfl (Box.cells hb19) rfl rfl) ?_
  refine TL.yld rfl rfl (yld_neq rfl rfl rfl) ?_
  refine TL.done ?_
  refine NX.seq ?_
  refine WC.cond rfl ?_ ?_
  · intro hc23
    replace hF := bif_t hc23 hF
    refine WC.seq ?_
    refine WC.region ?_
    refine TL.yld rfl rfl (yld_assign rfl rfl) ?_
    refine TL.done ?_
    refine NX.seq ?_
    refine WC.ret' ?_
    refine NX.then_r ?_
    obtain rfl := Option.some.inj hF
    exact NX.end (rs := [.tmp 4]) (vs := [.bool false]) rfl ⟨rfl, trivial⟩ ⟨_, rfl, rfl, he21⟩
  · intro hc24
    replace hF := bif_f hc24 hF
    refine WC.skip' ?_
    refine NX.seq ?_
    refine WC.seq ?_
    refine WC.seq ?_
    refine WC.region ?_
    refine TL.yld rfl rfl (yld_fieldAddr rfl fo_62_1 rfl) ?_
    refine TL.yld rfl rfl (yld_load1 1 rfl ag_2 rfl (Box.cells hb12) rfl rfl) ?_
    refine TL.yld rfl rfl (yld_fieldAddr rfl fo_62_1 rfl) ?_
    refine TL.yld rfl rfl (yld_load1 1 rfl ag_2 rfl (Box.cells hb19) rfl rfl) ?_
    refine TL.yld rfl rfl (yld_neq rfl rfl rfl) ?_
    refine TL.done ?_
    refine NX.seq ?_
    refine WC.cond rfl ?_ ?_
    · intro hc25
      replace hF := bif_t hc25 hF
      refine WC.seq ?_
      refine WC.region ?_
      refine TL.yld rfl rfl (yld_assign rfl rfl) ?_
      refine TL.done ?_
      refine NX.seq ?_
      refine WC.ret' ?_
      refine NX.then_r ?_
      obtain rfl := Option.some.inj hF
      exact NX.end (rs := [.tmp 4]) (vs := [.bool false]) rfl ⟨rfl, trivial⟩ ⟨_, rfl, rfl, he21⟩
    · intro hc26
      replace hF := bif_f hc26 hF
      refine WC.skip' ?_
      refine NX.seq ?_
      refine WC.seq ?_
      refine WC.seq ?_
      refine WC.region ?_
      refine TL.yld rfl rfl (yld_fieldAddr rfl fo_62_2 rfl) ?_
      refine TL.yld rfl rfl (yld_load1 2 rfl ag_2 rfl (Box.cells hb12) rfl rfl) ?_
      refine TL.yld rfl rfl (yld_fieldAddr rfl fo_62_2 rfl) ?_
      refine TL.yld rfl rfl (yld_load1 2 rfl ag_2 rfl (Box.cells hb19) rfl rfl) ?_
      refine TL.yld rfl rfl (yld_neq rfl rfl rfl) ?_
      refine TL.done ?_
      refine NX.seq ?_
      refine WC.cond rfl ?_ ?_
      · intro hc27
        replace hF := bif_t hc27 hF
        refine WC.seq ?_
        refine WC.region ?_
        refine TL.yld rfl rfl (yld_assign rfl rfl) ?_
        refine TL.done ?_
        refine NX.seq ?_
        refine WC.ret' ?_
        refine NX.then_r ?_
        obtain rfl := Option.some.inj hF
        exact NX.end (rs := [.tmp 4]) (vs := [.bool false]) rfl ⟨rfl, trivial⟩ ⟨_, rfl, rfl, he21⟩
      · intro hc28
        replace hF := bif_f hc28 hF
        refine WC.skip' ?_
        refine NX.seq ?_
        refine WC.seq ?_
        refine WC.seq ?_
        refine WC.region ?_
        refine TL.yld rfl rfl (yld_fieldAddr rfl fo_62_3 rfl) ?_
        refine TL.yld rfl rfl (yld_load1 3 rfl ag_2 rfl (Box.cells hb12) rfl rfl) ?_
        refine TL.yld rfl rfl (yld_fieldAddr rfl fo_62_3 rfl) ?_
        refine TL.yld rfl rfl (yld_load1 3 rfl ag_2 rfl (Box.cells hb19) rfl rfl) ?_
        refine TL.yld rfl rfl (yld_neq rfl rfl rfl) ?_
        refine TL.done ?_
        refine NX.seq ?_
        refine WC.cond rfl ?_ ?_
        · intro hc29
          replace hF := bif_t hc29 hF
          refine WC.seq ?_
          refine WC.region ?_
          refine TL.yld rfl rfl (yld_assign rfl rfl) ?_
          refine TL.done ?_
          refine NX.seq ?_
          refine WC.ret' ?_
          refine NX.then_r ?_
          obtain rfl := Option.some.inj hF
          exact NX.end (rs := [.tmp 4]) (vs := [.bool false]) rfl ⟨rfl, trivial⟩ ⟨_, rfl, rfl, he21⟩
        · intro hc30
          replace hF := bif_f hc30 hF
          refine WC.skip' ?_
          refine NX.seq ?_
          refine WC.seq ?_
          refine WC.seq ?_
          refine WC.region ?_
          refine TL.yld rfl rfl (yld_fieldAddr rfl fo_62_4 rfl) ?_
          refine TL.yld rfl rfl (yld_load1 4 rfl ag_60 rfl (Box.cells hb12) rfl rfl) ?_
          refine TL.yld rfl rfl (yld_fieldAddr rfl fo_62_4 rfl) ?_
          refine TL.yld rfl rfl (yld_load1 4 rfl ag_60 rfl (Box.cells hb19) rfl rfl) ?_
          obtain ⟨r31, hr32, hF⟩ := bsome hF
          refine TL.eff rfl rfl (eff_call rfl gf_55 rfl (W_laws_eqTableS hr32 ((slRep.old ha2 he21 (Nat.le_refl _)).wide (Nat.le_refl _) (he21).size) ((slRep.old ha6 he21 (Nat.le_refl _)).wide (Nat.le_refl _) (he21).size))) ?_
          rintro _ w33 ⟨rfl, hx34⟩
          have he35 : Ext w w33 := Ext.trans he21 hx34
          have hb12 := Box.ext hb12 hx34
          have hb19 := Box.ext hb19 hx34
          have hz36 := (hx34).size
          refine TL.yld rfl rfl (yld_not rfl rfl) ?_
          refine TL.done ?_
          refine NX.seq ?_
          refine WC.cond rfl ?_ ?_
          · intro hc37
            replace hF := bif_t hc37 hF
            refine WC.seq ?_
            refine WC.region ?_
            refine TL.yld rfl rfl (yld_assign rfl rfl) ?_
            refine TL.done ?_
            refine NX.seq ?_
            refine WC.ret' ?_
            refine NX.then_r ?_
            obtain rfl := Option.some.inj hF
            exact NX.end (rs := [.tmp 4]) (vs := [.bool false]) rfl ⟨rfl, trivial⟩ ⟨_, rfl, rfl, he35⟩
          · intro hc38
            replace hF := bif_f hc38 hF
            refine WC.skip' ?_
            refine NX.seq ?_
            refine WC.seq ?_
            refine WC.seq ?_
            refine WC.region ?_
            refine TL.yld rfl rfl (yld_fieldAddr rfl fo_62_5 rfl) ?_
            refine TL.yld rfl rfl (yld_load1 5 rfl ag_60 rfl (Box.cells hb12) rfl rfl) ?_
            refine TL.yld rfl rfl (yld_fieldAddr rfl fo_62_5 rfl) ?_
            refine TL.yld rfl rfl (yld_load1 5 rfl ag_60 rfl (Box.cells hb19) rfl rfl) ?_
            obtain ⟨r39, hr40, hF⟩ := bsome hF
            refine TL.eff rfl rfl (eff_call rfl gf_55 rfl (W_laws_eqTableS hr40 ((slRep.old ha4 he35 (Nat.le_refl _)).wide (Nat.le_refl _) (he35).size) ((slRep.old ha8 he35 (Nat.le_refl _)).wide (Nat.le_refl _) (he35).size))) ?_
            rintro _ w41 ⟨rfl, hx42⟩
            have he43 : Ext w w41 := Ext.trans he35 hx42
            have hz44 := (hx42).size
            refine TL.yld rfl rfl (yld_not rfl rfl) ?_
            refine TL.done ?_
            refine NX.seq ?_
            refine WC.cond rfl ?_ ?_
            · intro hc45
              replace hF := bif_t hc45 hF
              refine WC.seq ?_
              refine WC.region ?_
              refine TL.yld rfl rfl (yld_assign rfl rfl) ?_
              refine TL.done ?_
              refine NX.seq ?_
              refine WC.ret' ?_
              refine NX.then_r ?_
              obtain rfl := Option.some.inj hF
              exact NX.end (rs := [.tmp 4]) (vs := [.bool false]) rfl ⟨rfl, trivial⟩ ⟨_, rfl, rfl, he43⟩
            · intro hc46
              replace hF := bif_f hc46 hF
              refine WC.skip' ?_
              refine NX.seq ?_
              refine WC.seq ?_
              refine WC.region ?_
              refine TL.yld rfl rfl (yld_assign rfl rfl) ?_
              refine TL.done ?_
              refine NX.seq ?_
              refine WC.ret' ?_
              obtain rfl := Option.some.inj hF
              exact NX.end (rs := [.tmp 4]) (vs := [.bool true]) rfl ⟨rfl, trivial⟩ ⟨_, rfl, rfl, he43⟩

-- loop.example/g00861/laws.eqArcS
def F_laws_eqArcS_L1 (n : Nat) (a0_a : List S_Arc) (a1_b : List S_Arc) (k0 : Int → Option Bool) : Nat → Int → Option Bool
  | 0 => fun _ => none
  | m + 1 => fun i9 => (bif decide (i9 < (a0_a.length : Int)) then (Option.bind (getI a0_a i9) fun x11 => (Option.bind (getI a1_b i9) fun x23 => (Option.bind (F_laws_eqArc n x11 x23) fun r35 => (bif (!r35) then (some false) else (F_laws_eqArcS_L1 n a0_a a1_b k0 m (IntKind.wrap IntKind.i64 (i9 + 1))))))) else (k0 i9))
theorem F_laws_eqArcS_L1_z (n : Nat) (a0_a : List S_Arc) (a1_b : List S_Arc) (k0 : Int → Option Bool) (i9 : Int) : F_laws_eqArcS_L1 n a0_a a1_b k0 0 i9 = none := rfl
theorem F_laws_eqArcS_L1_s (m : Nat) (n : Nat) (a0_a : List S_Arc) (a1_b : List S_Arc) (k0 : Int → Option Bool) (i9 : Int) : F_laws_eqArcS_L1 n a0_a a1_b k0 (m + 1) i9 = (bif decide (i9 < (a0_a.length : Int)) then (Option.bind (getI a0_a i9) fun x11 => (Option.bind (getI a1_b i9) fun x23 => (Option.bind (F_laws_eqArc n x11 x23) fun r35 => (bif (!r35) then (some false) else (F_laws_eqArcS_L1 n a0_a a1_b k0 m (IntKind.wrap IntKind.i64 (i9 + 1))))))) else (k0 i9)) := rfl

def F_laws_eqArcS (n : Nat) (a0_a : List S_Arc) (a1_b : List S_Arc) : Option Bool := (bif (((a0_a.length : Int)) != ((a1_b.length : Int))) then (some false) else (F_laws_eqArcS_L1 n a0_a a1_b (fun i9 => (some true)) n 0))
set_option maxHeartbeats 40000000 in
theorem W_laws_eqArcS {n : Nat} {a0_a : List S_Arc} {a1_b : List S_Arc} {r : Bool} {w : World} {v1 : Value} {v3 : Value} (hF : F_laws_eqArcS n a0_a a1_b = some r) (ha2 : slRep C_Arc w (Iv 0 w.heap.size) a0_a v1) (ha4 : slRep C_Arc w (Iv 0 w.heap.size) a1_b v3) :
    Calls Tryz.prog 22 [v1, v3].toArray w (Ret fun u w2 => u = .bool r ∧ Ext w w2) := by
  refine calls_of Tryz.func22 rfl Tryz.ntmps22 ?_
  have he0 : Ext w w := Ext.refl w
  unfold F_laws_eqArcS at hF
  refine WC.seq ?_
  refine WC.region ?_
  refine TL.yld rfl rfl (yld_assign rfl rfl) ?_
  refine TL.done ?_
  refine NX.seq ?_
  refine WC.seq ?_
  refine WC.seq ?_
  refine WC.region ?_
  refine TL.yld rfl rfl (yld_move rfl rfl) ?_
  refine TL.yld rfl rfl (ye_len (c := C_Arc) rfl Tryz.underlying30 rfl (slRep.old ha2 he0 (Nat.le_refl _))) ?_
  refine TL.yld rfl rfl (yld_move rfl rfl) ?_
  refine TL.yld rfl rfl (ye_len (c := C_Arc) rfl Tryz.underlying30 rfl (slRep.old ha4 he0 (Nat.le_refl _))) ?_
  refine TL.yld rfl rfl (yld_neq rfl rfl rfl) ?_
  refine TL.done ?_
  refine NX.seq ?_
  refine WC.cond rfl ?_ ?_
  · intro hc5
    replace hF := bif_t hc5 hF
    refine WC.seq ?_
    refine WC.region ?_
    refine TL.yld rfl rfl (yld_assign rfl rfl) ?_
    refine TL.done ?_
    refine NX.seq ?_
    refine WC.ret' ?_
    refine NX.then_r ?_
    obtain rfl := Option.some.inj hF
    exact NX.end (rs := [.tmp 4]) (vs := [.bool false]) rfl ⟨rfl, trivial⟩ ⟨_, rfl, rfl, he0⟩
  · intro hc6
    replace hF := bif_f hc6 hF
    refine WC.skip' ?_
    refine NX.seq ?_
    refine WC.seq ?_
    refine WC.seq ?_
    refine WC.region ?_
    refine TL.yld rfl rfl (yld_assign rfl rfl) ?_
    refine TL.done ?_
    refine NX.seq ?_
    refine WC.block ?_
    refine WC.loop (fun m10 a wl => ∃ (i9 : Int), Kn 27 [(0, v1), (1, v3), (5, .int .i64 i9)] a ∧ Ext w wl ∧ w.heap.size ≤ wl.heap.size ∧ F_laws_eqArcS_L1 n a0_a a1_b (fun i9 => (some true)) m10 i9 = some r) n ?_ ?_
    · intro a hK; exact ⟨0, hK.weaken ⟨rfl, rfl, rfl, trivial⟩, he0, Nat.le_refl _, hF⟩
    · rintro m10 a w7 ⟨i9, hK, he8, hz11, hF⟩
      revert hK; revert a; refine (?_ : WC _ _ _ _ _ _)
      cases m10 with
      | zero => rw [F_laws_eqArcS_L1_z] at hF; cases hF
      | succ m10 =>
        rw [F_laws_eqArcS_L1_s] at hF
        refine WC.seq ?_
        refine WC.seq ?_
        refine WC.region ?_
        refine TL.yld rfl rfl (yld_move rfl rfl) ?_
        refine TL.yld rfl rfl (yld_move rfl rfl) ?_
        refine TL.yld rfl rfl (ye_len (c := C_Arc) rfl Tryz.underlying30 rfl (slRep.old ha2 he8 (Nat.le_refl _))) ?_
        refine TL.yld rfl rfl (yld_lss rfl rfl rfl) ?_
        refine TL.done ?_
        refine NX.seq ?_
        refine WC.cond rfl ?_ ?_
        · intro hc12
          replace hF := bif_t hc12 hF
          refine WC.skip' ?_
          refine NX.seq ?_
          refine WC.seq ?_
          refine WC.block ?_
          refine WC.seq ?_
          refine WC.quiet Tryz.hm (by kernel_rfl) ?_
          refine QL.yld rfl rfl (Yld.qui (yld_move rfl rfl)) ?_
          refine QL.yld rfl rfl (Yld.qui (yld_move rfl rfl)) ?_
          obtain ⟨x13, hy14, hF⟩ := bsome hF
          refine QL.ye rfl rfl (ye_index (c := C_Arc) rfl Tryz.underlying30 cn_62 rfl rfl (slRep.old ha2 he8 (Nat.le_refl _)) hy14) ?_
          rintro _ ⟨b15, o16, us17, rfl, hib20, hr18, hcl19⟩
          have hib20 : 0 ≤ b15 ∧ b15 < w.heap.size := ⟨hib20.1, by have := hib20.2; omega⟩
          obtain ⟨v21, v22, rfl, hs23, hs24⟩ := C_Arc_open hr18
          refine QL.yld rfl rfl (Yld.qui (yld_loadN (us := [.int .i64 x13.Kind, .int .i64 x13.From, .int .i64 x13.To, .int .i64 x13.Sense, v21, v22]) rfl ag_62 rfl hcl19 cn_62)) ?_
          refine QL.yld rfl rfl (Yld.qui (yld_move rfl rfl)) ?_
          refine QL.yld rfl rfl (Yld.qui (yld_move rfl rfl)) ?_
          obtain ⟨x25, hy26, hF⟩ := bsome hF
          refine QL.ye rfl rfl (ye_index (c := C_Arc) rfl Tryz.underlying30 cn_62 rfl rfl (slRep.old ha4 he8 (Nat.le_refl _)) hy26) ?_
          rintro _ ⟨b27, o28, us29, rfl, hib32, hr30, hcl31⟩
          have hib32 : 0 ≤ b27 ∧ b27 < w.heap.size := ⟨hib32.1, by have := hib32.2; omega⟩
          obtain ⟨v33, v34, rfl, hs35, hs36⟩ := C_Arc_open hr30
          refine QL.yld rfl rfl (Yld.qui (yld_loadN (us := [.int .i64 x25.Kind, .int .i64 x25.From, .int .i64 x25.To, .int .i64 x25.Sense, v33, v34]) rfl ag_62 rfl hcl31 cn_62)) ?_
          obtain ⟨r37, hr38, hF⟩ := bsome hF
          refine QL.yld rfl rfl (qui_call rfl gf_42 rfl fun w' hw' => W_laws_eqArc hr38 (((hs23.wide (Nat.zero_le _) (by omega))).mono (fun k h => ⟨h.1, Nat.lt_of_lt_of_le h.2 (hw').size⟩) (fun k h2 => (hw').block k h2.2)) (((hs24.wide (Nat.zero_le _) (by omega))).mono (fun k h => ⟨h.1, Nat.lt_of_lt_of_le h.2 (hw').size⟩) (fun k h2 => (hw').block k h2.2)) (((hs35.wide (Nat.zero_le _) (by omega))).mono (fun k h => ⟨h.1, Nat.lt_of_lt_of_le h.2 (hw').size⟩) (fun k h2 => (hw').block k h2.2)) (((hs36.wide (Nat.zero_le _) (by omega))).mono (fun k h => ⟨h.1, Nat.lt_of_lt_of_le h.2 (hw').size⟩) (fun k h2 => (hw').block k h2.2))) ?_
          refine QL.yld rfl rfl (Yld.qui (yld_not rfl rfl)) ?_
          refine QL.done fun w39 hx40 => ?_
          have he41 : Ext w w39 := Ext.trans he8 hx40
          have hz42 := (hx40).size
          refine NX.seq ?_
          refine WC.cond rfl ?_ ?_
          · intro hc43
            replace hF := bif_t hc43 hF
            refine WC.seq ?_
            refine WC.region ?_
            refine TL.yld rfl rfl (yld_assign rfl rfl) ?_
            refine TL.done ?_
            refine NX.seq ?_
            refine WC.ret' ?_
            refine NX.blk_r ?_
            refine NX.then_r ?_
            refine NX.then_r ?_
            refine NX.blk_r ?_
            refine NX.then_r ?_
            obtain rfl := Option.some.inj hF
            exact NX.end (rs := [.tmp 4]) (vs := [.bool false]) rfl ⟨rfl, trivial⟩ ⟨_, rfl, rfl, he41⟩
          · intro hc44
            replace hF := bif_f hc44 hF
            refine WC.skip' ?_
            refine NX.blk_n ?_
            refine NX.seq ?_
            refine WC.region ?_
            refine TL.yld rfl rfl (yld_move rfl rfl) ?_
            refine TL.yld rfl rfl (yld_add rfl rfl rfl) ?_
            refine TL.yld rfl rfl (yld_assign rfl rfl) ?_
            refine TL.done ?_
            refine NX.then_n ?_
            intro a hK; exact ⟨m10, Nat.lt_succ_self m10, (IntKind.wrap IntKind.i64 (i9 + 1)), hK.weaken ⟨rfl, rfl, rfl, trivial⟩, he41, (by omega), hF⟩
        · intro hc45
          replace hF := bif_f hc45 hF
          refine WC.exit' ?_
          refine NX.then_e ?_
          refine NX.then_e ?_
          refine NX.blk_hit ?_
          refine NX.seq ?_
          refine WC.seq ?_
          refine WC.region ?_
          refine TL.yld rfl rfl (yld_assign rfl rfl) ?_
          refine TL.done ?_
          refine NX.seq ?_
          refine WC.ret' ?_
          obtain rfl := Option.some.inj hF
          exact NX.end (rs := [.tmp 4]) (vs := [.bool true]) rfl ⟨rfl, trivial⟩ ⟨_, rfl, rfl, he8⟩

-- loop.example/g00861/laws.eqCell
def F_laws_eqCell (n : Nat) (a0_a : S_Cell) (a1_b : S_Cell) : Option Bool := (bif (a0_a.Name.toList != a1_b.Name.toList) then (some false) else (bif (a0_a.Kind != a1_b.Kind) then (some false) else (Option.bind (F_laws_eqPinS n a0_a.Pins a1_b.Pins) fun r31 => (bif (!r31) then (some false) else (Option.bind (F_laws_eqArcS n a0_a.Arcs a1_b.Arcs) fun r39 => (bif (!r39) then (some false) else (Option.bind (F_laws_eqInt64S n a0_a.Truth a1_b.Truth) fun r47 => (bif (!r47) then (some false) else (bif (a0_a.Leak != a1_b.Leak) then (some false) else (bif (a0_a.Energy != a1_b.Energy) then (some false) else (some true)))))))))))
set_option maxHeartbeats 40000000 in
theorem W_laws_eqCell {n : Nat} {a0_a : S_Cell} {a1_b : S_Cell} {r : Bool} {w : World} {v1 : Value} {v3 : Value} {v5 : Value} {v7 : Value} {v9 : Value} {v11 : Value} (hF : F_laws_eqCell n a0_a a1_b = some r) (ha2 : slRep C_Pin w (Iv 0 w.heap.size) a0_a.Pins v1) (ha4 : slRep C_Arc w (Iv 0 w.heap.size) a0_a.Arcs v3) (ha6 : slRep (cInt .i64) w (Iv 0 w.heap.size) a0_a.Truth v5) (ha8 : slRep C_Pin w (Iv 0 w.heap.size) a1_b.Pins v7) (ha10 : slRep C_Arc w (Iv 0 w.heap.size) a1_b.Arcs v9) (ha12 : slRep (cInt .i64) w (Iv 0 w.heap.size) a1_b.Truth v11) :
    Calls Tryz.prog 8 [.agg #[.string a0_a.Name, .int .i64 a0_a.Kind, v1, v3, v5, .int .i64 a0_a.Leak, .int .i64 a0_a.Energy], .agg #[.string a1_b.Name, .int .i64 a1_b.Kind, v7, v9, v11, .int .i64 a1_b.Leak, .int .i64 a1_b.Energy]].toArray w (Ret fun u w2 => u = .bool r ∧ Ext w w2) := by
  refine calls_of Tryz.func8 rfl Tryz.ntmps8 ?_
  have he0 : Ext w w := Ext.refl w
  unfold F_laws_eqCell at hF
  refine WC.seq ?_
  refine WC.region ?_
  refine TL.eff rfl rfl (eff_box rfl rfl) ?_
  rintro _ w14 ⟨b13, rfl, hn15⟩
  obtain ⟨hn15e, hn15s, hn15x, hb16⟩ := hn15
  have hb16 : Box w14 b13 [.string a0_a.Name, .int .i64 a0_a.Kind, v1, v3, v5, .int .i64 a0_a.Leak, .int .i64 a0_a.Energy] 32 := hb16
  have he18 : Ext w w14 := Ext.trans he0 hn15x
  have hz19 := (hn15x).size
  have hlo17 : w.heap.size ≤ b13 := by rw [hn15e]; exact (he0).size
  refine TL.eff rfl rfl (eff_box rfl rfl) ?_
  rintro _ w21 ⟨b20, rfl, hn22⟩
  obtain ⟨hn22e, hn22s, hn22x, hb23⟩ := hn22
  have hb23 : Box w21 b20 [.string a1_b.Name, .int .i64 a1_b.Kind, v7, v9, v11, .int .i64 a1_b.Leak, .int .i64 a1_b.Energy] 32 := hb23
  have he25 : Ext w w21 := Ext.trans he18 hn22x
  have hb16 := Box.ext hb16 hn22x
  have hz26 := (hn22x).size
  have hlo24 : w.heap.size ≤ b20 := by rw [hn22e]; exact (he18).size
  refine TL.yld rfl rfl (yld_assign rfl rfl) ?_
  refine TL.done ?_
  refine NX.seq ?_
  refine WC.seq ?_
  refine WC.seq ?_
  refine WC.region ?_
  refine TL.yld rfl rfl (yld_fieldAddr rfl fo_32_0 rfl) ?_
  refine TL.yld rfl rfl (yld_load1 0 rfl ag_9 rfl (Box.cells hb16) rfl rfl) ?_
  refine TL.yld rfl rfl (yld_fieldAddr rfl fo_32_0 rfl) ?_
  refine TL.yld rfl rfl (yld_load1 0 rfl ag_9 rfl (Box.cells hb23) rfl rfl) ?_
  refine TL.yld rfl rfl (yld_nes rfl rfl rfl) ?_
  refine TL.done ?_
  refine NX.seq ?_
  refine WC.cond rfl ?_ ?_
  · intro hc27
    replace hF := bif_t hc27 hF
    refine WC.seq ?_
    refine WC.region ?_
    refine TL.yld rfl rfl (yld_assign rfl rfl) ?_
    refine TL.done ?_
    refine NX.seq ?_
    refine WC.ret' ?_
    refine NX.then_r ?_
    obtain rfl := Option.some.inj hF
    exact NX.end (rs := [.tmp 4]) (vs := [.bool false]) rfl ⟨rfl, trivial⟩ ⟨_, rfl, rfl, he25⟩
  · intro hc28
    replace hF := bif_f hc28 hF
    refine WC.skip' ?_
    refine NX.seq ?_
    refine WC.seq ?_
    refine WC.seq ?_
    refine WC.region ?_
    refine TL.yld rfl rfl (yld_fieldAddr rfl fo_32_1 rfl) ?_
    refine TL.yld rfl rfl (yld_load1 1 rfl ag_2 rfl (Box.cells hb16) rfl rfl) ?_
    refine TL.yld rfl rfl (yld_fieldAddr rfl fo_32_1 rfl) ?_
    refine TL.yld rfl rfl (yld_load1 1 rfl ag_2 rfl (Box.cells hb23) rfl rfl) ?_
    refine TL.yld rfl rfl (yld_neq rfl rfl rfl) ?_
    refine TL.done ?_
    refine NX.seq ?_
    refine WC.cond rfl ?_ ?_
    · intro hc29
      replace hF := bif_t hc29 hF
      refine WC.seq ?_
      refine WC.region ?_
      refine TL.yld rfl rfl (yld_assign rfl rfl) ?_
      refine TL.done ?_
      refine NX.seq ?_
      refine WC.ret' ?_
      refine NX.then_r ?_
      obtain rfl := Option.some.inj hF
      exact NX.end (rs := [.tmp 4]) (vs := [.bool false]) rfl ⟨rfl, trivial⟩ ⟨_, rfl, rfl, he25⟩
    · intro hc30
      replace hF := bif_f hc30 hF
      refine WC.skip' ?_
      refine NX.seq ?_
      refine WC.seq ?_
      refine WC.seq ?_
      refine WC.region ?_
      refine TL.yld rfl rfl (yld_fieldAddr rfl fo_32_2 rfl) ?_
      refine TL.yld rfl rfl (yld_load1 2 rfl ag_29 rfl (Box.cells hb16) rfl rfl) ?_
      refine TL.yld rfl rfl (yld_fieldAddr rfl fo_32_2 rfl) ?_
      refine TL.yld rfl rfl (yld_load1 2 rfl ag_29 rfl (Box.cells hb23) rfl rfl) ?_
      obtain ⟨r31, hr32, hF⟩ := bsome hF
      refine TL.eff rfl rfl (eff_call rfl gf_21 rfl (W_laws_eqPinS hr32 ((slRep.old ha2 he25 (Nat.le_refl _)).wide (Nat.le_refl _) (he25).size) ((slRep.old ha8 he25 (Nat.le_refl _)).wide (Nat.le_refl _) (he25).size))) ?_
      rintro _ w33 ⟨rfl, hx34⟩
      have he35 : Ext w w33 := Ext.trans he25 hx34
      have hb16 := Box.ext hb16 hx34
      have hb23 := Box.ext hb23 hx34
      have hz36 := (hx34).size
      refine TL.yld rfl rfl (yld_not rfl rfl) ?_
      refine TL.done ?_
      refine NX.seq ?_
      refine WC.cond rfl ?_ ?_
      · intro hc37
        replace hF := bif_t hc37 hF
        refine WC.seq ?_
        refine WC.region ?_
        refine TL.yld rfl rfl (yld_assign rfl rfl) ?_
        refine TL.done ?_
        refine NX.seq ?_
        refine WC.ret' ?_
        refine NX.then_r ?_
        obtain rfl := Option.some.inj hF
        exact NX.end (rs := [.tmp 4]) (vs := [.bool false]) rfl ⟨rfl, trivial⟩ ⟨_, rfl, rfl, he35⟩
      · intro hc38
        replace hF := bif_f hc38 hF
        refine WC.skip' ?_
        refine NX.seq ?_
        refine WC.seq ?_
        refine WC.seq ?_
        refine WC.region ?_
        refine TL.yld rfl rfl (yld_fieldAddr rfl fo_32_3 rfl) ?_
        refine TL.yld rfl rfl (yld_load1 3 rfl ag_30 rfl (Box.cells hb16) rfl rfl) ?_
        refine TL.yld rfl rfl (yld_fieldAddr rfl fo_32_3 rfl) ?_
        refine TL.yld rfl rfl (yld_load1 3 rfl ag_30 rfl (Box.cells hb23) rfl rfl) ?_
        obtain ⟨r39, hr40, hF⟩ := bsome hF
        refine TL.eff rfl rfl (eff_call rfl gf_22 rfl (W_laws_eqArcS hr40 ((slRep.old ha4 he35 (Nat.le_refl _)).wide (Nat.le_refl _) (he35).size) ((slRep.old ha10 he35 (Nat.le_refl _)).wide (Nat.le_refl _) (he35).size))) ?_
        rintro _ w41 ⟨rfl, hx42⟩
        have he43 : Ext w w41 := Ext.trans he35 hx42
        have hb16 := Box.ext hb16 hx42
        have hb23 := Box.ext hb23 hx42
        have hz44 := (hx42).size
        refine TL.yld rfl rfl (yld_not rfl rfl) ?_
        refine TL.done ?_
        refine NX.seq ?_
        refine WC.cond rfl ?_ ?_
        · intro hc45
          replace hF := bif_t hc45 hF
          refine WC.seq ?_
          refine WC.region ?_
          refine TL.yld rfl rfl (yld_assign rfl rfl) ?_
          refine TL.done ?_
          refine NX.seq ?_
          refine WC.ret' ?_
          refine NX.then_r ?_
          obtain rfl := Option.some.inj hF
          exact NX.end (rs := [.tmp 4]) (vs := [.bool false]) rfl ⟨rfl, trivial⟩ ⟨_, rfl, rfl, he43⟩
        · intro hc46
          replace hF := bif_f hc46 hF
          refine WC.skip' ?_
          refine NX.seq ?_
          refine WC.seq ?_
          refine WC.seq ?_
          refine WC.region ?_
          refine TL.yld rfl rfl (yld_fieldAddr rfl fo_32_4 rfl) ?_
          refine TL.yld rfl rfl (yld_load1 4 rfl ag_24 rfl (Box.cells hb16) rfl rfl) ?_
          refine TL.yld rfl rfl (yld_fieldAddr rfl fo_32_4 rfl) ?_
          refine TL.yld rfl rfl (yld_load1 4 rfl ag_24 rfl (Box.cells hb23) rfl rfl) ?_
          obtain ⟨r47, hr48, hF⟩ := bsome hF
          refine TL.eff rfl rfl (eff_call rfl gf_23 rfl (W_laws_eqInt64S hr48 ((slRep.old ha6 he43 (Nat.le_refl _)).wide (Nat.le_refl _) (he43).size) ((slRep.old ha12 he43 (Nat.le_refl _)).wide (Nat.le_refl _) (he43).size))) ?_
          rintro _ w49 ⟨rfl, hx50⟩
          have he51 : Ext w w49 := Ext.trans he43 hx50
          have hb16 := Box.ext hb16 hx50
          have hb23 := Box.ext hb23 hx50
          have hz52 := (hx50).size
          refine TL.yld rfl rfl (yld_not rfl rfl) ?_
          refine TL.done ?_
          refine NX.seq ?_
          refine WC.cond rfl ?_ ?_
          · intro hc53
            replace hF := bif_t hc53 hF
            refine WC.seq ?_
            refine WC.region ?_
            refine TL.yld rfl rfl (yld_assign rfl rfl) ?_
            refine TL.done ?_
            refine NX.seq ?_
            refine WC.ret' ?_
            refine NX.then_r ?_
            obtain rfl := Option.some.inj hF
            exact NX.end (rs := [.tmp 4]) (vs := [.bool false]) rfl ⟨rfl, trivial⟩ ⟨_, rfl, rfl, he51⟩
          · intro hc54
            replace hF := bif_f hc54 hF
            refine WC.skip' ?_
            refine NX.seq ?_
            refine WC.seq ?_
            refine WC.seq ?_
            refine WC.region ?_
            refine TL.yld rfl rfl (yld_fieldAddr rfl fo_32_5 rfl) ?_
            refine TL.yld rfl rfl (yld_load1 5 rfl ag_2 rfl (Box.cells hb16) rfl rfl) ?_
            refine TL.yld rfl rfl (yld_fieldAddr rfl fo_32_5 rfl) ?_
            refine TL.yld rfl rfl (yld_load1 5 rfl ag_2 rfl (Box.cells hb23) rfl rfl) ?_
            refine TL.yld rfl rfl (yld_neq rfl rfl rfl) ?_
            refine TL.done ?_
            refine NX.seq ?_
            refine WC.cond rfl ?_ ?_
            · intro hc55
              replace hF := bif_t hc55 hF
              refine WC.seq ?_
              refine WC.region ?_
              refine TL.yld rfl rfl (yld_assign rfl rfl) ?_
              refine TL.done ?_
              refine NX.seq ?_
              refine WC.ret' ?_
              refine NX.then_r ?_
              obtain rfl := Option.some.inj hF
              exact NX.end (rs := [.tmp 4]) (vs := [.bool false]) rfl ⟨rfl, trivial⟩ ⟨_, rfl, rfl, he51⟩
            · intro hc56
              replace hF := bif_f hc56 hF
              refine WC.skip' ?_
              refine NX.seq ?_
              refine WC.seq ?_
              refine WC.seq ?_
              refine WC.region ?_
              refine TL.yld rfl rfl (yld_fieldAddr rfl fo_32_6 rfl) ?_
              refine TL.yld rfl rfl (yld_load1 6 rfl ag_2 rfl (Box.cells hb16) rfl rfl) ?_
              refine TL.yld rfl rfl (yld_fieldAddr rfl fo_32_6 rfl) ?_
              refine TL.yld rfl rfl (yld_load1 6 rfl ag_2 rfl (Box.cells hb23) rfl rfl) ?_
              refine TL.yld rfl rfl (yld_neq rfl rfl rfl) ?_
              refine TL.done ?_
              refine NX.seq ?_
              refine WC.cond rfl ?_ ?_
              · intro hc57
                replace hF := bif_t hc57 hF
                refine WC.seq ?_
                refine WC.region ?_
                refine TL.yld rfl rfl (yld_assign rfl rfl) ?_
                refine TL.done ?_
                refine NX.seq ?_
                refine WC.ret' ?_
                refine NX.then_r ?_
                obtain rfl := Option.some.inj hF
                exact NX.end (rs := [.tmp 4]) (vs := [.bool false]) rfl ⟨rfl, trivial⟩ ⟨_, rfl, rfl, he51⟩
              · intro hc58
                replace hF := bif_f hc58 hF
                refine WC.skip' ?_
                refine NX.seq ?_
                refine WC.seq ?_
                refine WC.region ?_
                refine TL.yld rfl rfl (yld_assign rfl rfl) ?_
                refine TL.done ?_
                refine NX.seq ?_
                refine WC.ret' ?_
                obtain rfl := Option.some.inj hF
                exact NX.end (rs := [.tmp 4]) (vs := [.bool true]) rfl ⟨rfl, trivial⟩ ⟨_, rfl, rfl, he51⟩

-- loop.example/g00861/laws.FnExactActiveLevel
def F_laws_FnExactActiveLevel (n : Nat) (a0_aC : S_Cell) (a1_aP : Int) (a2_aQ : Int) : Option Bool := (Option.bind (F_laws_szCell n a0_aC 1048576) fun r14 => (bif decide (r14 < 0) then (some true) else (Option.bind (F_laws_toCell n a0_aC) fun r22 => (Option.bind (F_spec_ActiveLevel n r22 a1_aP a2_aQ) fun r43 => (Option.bind (F_laws_toCell n a0_aC) fun r49 => (Option.bind (F_impl_ActiveLevel n r49 a1_aP a2_aQ) fun r82 => (bif (r82 != r43) then (some false) else (Option.bind (F_laws_toCell n a0_aC) fun r90 => (Option.bind (F_laws_eqCell n r49 r90) fun r111 => (bif (!r111) then (some false) else (some true)))))))))))
set_option maxHeartbeats 40000000 in
theorem W_laws_FnExactActiveLevel {n : Nat} {a0_aC : S_Cell} {a1_aP : Int} {a2_aQ : Int} {r : Bool} {w : World} {v1 : Value} {v3 : Value} {v5 : Value} (hF : F_laws_FnExactActiveLevel n a0_aC a1_aP a2_aQ = some r) (ha2 : slRep C_Pin w (Iv 0 w.heap.size) a0_aC.Pins v1) (ha4 : slRep C_Arc w (Iv 0 w.heap.size) a0_aC.Arcs v3) (ha6 : slRep (cInt .i64) w (Iv 0 w.heap.size) a0_aC.Truth v5) :
    Calls Tryz.prog 3 [.agg #[.string a0_aC.Name, .int .i64 a0_aC.Kind, v1, v3, v5, .int .i64 a0_aC.Leak, .int .i64 a0_aC.Energy], .int .i64 a1_aP, .int .i64 a2_aQ].toArray w (Ret fun u w2 => u = .bool r ∧ Ext w w2) := by
  refine calls_of Tryz.func3 rfl Tryz.ntmps3 ?_
  have he0 : Ext w w := Ext.refl w
  unfold F_laws_FnExactActiveLevel at hF
  refine WC.seq ?_
  refine WC.region ?_
  refine TL.eff rfl rfl (eff_box rfl rfl) ?_
  rintro _ w8 ⟨b7, rfl, hn9⟩
  obtain ⟨hn9e, hn9s, hn9x, hb10⟩ := hn9
  have hb10 : Box w8 b7 [.string a0_aC.Name, .int .i64 a0_aC.Kind, v1, v3, v5, .int .i64 a0_aC.Leak, .int .i64 a0_aC.Energy] 26 := hb10
  have he12 : Ext w w8 := Ext.trans he0 hn9x
  have hz13 := (hn9x).size
  have hlo11 : w.heap.size ≤ b7 := by rw [hn9e]; exact (he0).size
  refine TL.yld rfl rfl (yld_assign rfl rfl) ?_
  refine TL.done ?_
  refine NX.seq ?_
  refine WC.seq ?_
  refine WC.region ?_
  refine TL.yld rfl rfl (yld_assign rfl rfl) ?_
  refine TL.done ?_
  refine NX.seq ?_
  refine WC.seq ?_
  refine WC.region ?_
  refine TL.yld rfl rfl (yld_loadN (us := [.string a0_aC.Name, .int .i64 a0_aC.Kind, v1, v3, v5, .int .i64 a0_aC.Leak, .int .i64 a0_aC.Energy]) rfl ag_26 rfl (Box.cells hb10) cn_26) ?_
  refine TL.yld rfl rfl (yld_move rfl rfl) ?_
  obtain ⟨r14, hr15, hF⟩ := bsome hF
  refine TL.eff rfl rfl (eff_call rfl gf_4 rfl (W_laws_szCell hr15 ((slRep.old ha2 he12 (Nat.le_refl _)).wide (Nat.le_refl _) (he12).size) ((slRep.old ha4 he12 (Nat.le_refl _)).wide (Nat.le_refl _) (he12).size) ((slRep.old ha6 he12 (Nat.le_refl _)).wide (Nat.le_refl _) (he12).size))) ?_
  rintro _ w16 ⟨rfl, hx17⟩
  have he18 : Ext w w16 := Ext.trans he12 hx17
  have hb10 := Box.ext hb10 hx17
  have hz19 := (hx17).size
  refine TL.yld rfl rfl (yld_assign rfl rfl) ?_
  refine TL.done ?_
  refine NX.seq ?_
  refine WC.seq ?_
  refine WC.seq ?_
  refine WC.region ?_
  refine TL.yld rfl rfl (yld_move rfl rfl) ?_
  refine TL.yld rfl rfl (yld_lss rfl rfl rfl) ?_
  refine TL.done ?_
  refine NX.seq ?_
  refine WC.cond rfl ?_ ?_
  · intro hc20
    replace hF := bif_t hc20 hF
    refine WC.seq ?_
    refine WC.region ?_
    refine TL.yld rfl rfl (yld_assign rfl rfl) ?_
    refine TL.done ?_
    refine NX.seq ?_
    refine WC.ret' ?_
    refine NX.then_r ?_
    obtain rfl := Option.some.inj hF
    exact NX.end (rs := [.tmp 6]) (vs := [.bool true]) rfl ⟨rfl, trivial⟩ ⟨_, rfl, rfl, he18⟩
  · intro hc21
    replace hF := bif_f hc21 hF
    refine WC.skip' ?_
    refine NX.seq ?_
    refine WC.seq ?_
    refine WC.region ?_
    refine TL.yld rfl rfl (yld_loadN (us := [.string a0_aC.Name, .int .i64 a0_aC.Kind, v1, v3, v5, .int .i64 a0_aC.Leak, .int .i64 a0_aC.Energy]) rfl ag_26 rfl (Box.cells hb10) cn_26) ?_
    obtain ⟨r22, hr23, hF⟩ := bsome hF
    refine TL.eff rfl rfl (eff_call rfl gf_6 rfl (W_laws_toCell hr23 ((slRep.old ha2 he18 (Nat.le_refl _)).wide (Nat.le_refl _) (he18).size) ((slRep.old ha4 he18 (Nat.le_refl _)).wide (Nat.le_refl _) (he18).size) ((slRep.old ha6 he18 (Nat.le_refl _)).wide (Nat.le_refl _) (he18).size))) ?_
    rintro _ w24 ⟨v26, v28, v30, rfl, hs27, hs29, hs31, hp38, hp39, hp40, hx25⟩
    have he41 : Ext w w24 := Ext.trans he18 hx25
    have hb10 := Box.ext hb10 hx25
    have hz42 := (hx25).size
    have hbd33 := ownR.blk hs27
    have hbd35 := ownR.blk hs29
    have hbd37 := ownR.blk hs31
    refine TL.yld rfl rfl (yld_move rfl rfl) ?_
    refine TL.yld rfl rfl (yld_move rfl rfl) ?_
    obtain ⟨r43, hr44, hF⟩ := bsome hF
    refine TL.eff rfl rfl (eff_call rfl gf_5 rfl (W_spec_ActiveLevel hr44 (ownR.slf hs27 (Nat.zero_le _) (Nat.le_refl _)) (ownR.slN hs29 (Nat.zero_le _) (Nat.le_refl _) (by omega)) (ownR.slf hs31 (Nat.zero_le _) (Nat.le_refl _)))) ?_
    rintro _ w45 ⟨rfl, hx46⟩
    have he47 : Ext w w45 := Ext.trans he41 hx46
    have hb10 := Box.ext hb10 hx46
    have hz48 := (hx46).size
    refine TL.yld rfl rfl (yld_assign rfl rfl) ?_
    refine TL.done ?_
    refine NX.seq ?_
    refine WC.seq ?_
    refine WC.region ?_
    refine TL.yld rfl rfl (yld_loadN (us := [.string a0_aC.Name, .int .i64 a0_aC.Kind, v1, v3, v5, .int .i64 a0_aC.Leak, .int .i64 a0_aC.Energy]) rfl ag_26 rfl (Box.cells hb10) cn_26) ?_
    obtain ⟨r49, hr50, hF⟩ := bsome hF
    refine TL.eff rfl rfl (eff_call rfl gf_6 rfl (W_laws_toCell hr50 ((slRep.old ha2 he47 (Nat.le_refl _)).wide (Nat.le_refl _) (he47).size) ((slRep.old ha4 he47 (Nat.le_refl _)).wide (Nat.le_refl _) (he47).size) ((slRep.old ha6 he47 (Nat.le_refl _)).wide (Nat.le_refl _) (he47).size))) ?_
    rintro _ w51 ⟨v53, v55, v57, rfl, hs54, hs56, hs58, hp65, hp66, hp67, hx52⟩
    have he68 : Ext w w51 := Ext.trans he47 hx52
    have hb10 := Box.ext hb10 hx52
    have hz69 := (hx52).size
    have hbd60 := ownR.blk hs54
    have hbd62 := ownR.blk hs56
    have hbd64 := ownR.blk hs58
    refine TL.eff rfl rfl (eff_alloc rfl zn_32) ?_
    rintro _ w71 ⟨b70, rfl, hn72⟩
    obtain ⟨hn72e, hn72s, hn72x, hb73⟩ := hn72
    have hb73 : Box w71 b70 [.string ByteArray.empty, .int .i64 0, .slice none 0 0, .slice none 0 0, .slice none 0 0, .int .i64 0, .int .i64 0] 32 := hb73
    have he75 : Ext w w71 := Ext.trans he68 hn72x
    have hb10 := Box.ext hb10 hn72x
    have hs54 := ownR.ext hs54 hn72x
    have hs56 := ownR.extN hs56 hn72x (by omega)
    have hs58 := ownR.ext hs58 hn72x
    have hz76 := (hn72x).size
    have hlo74 : w.heap.size ≤ b70 := by rw [hn72e]; exact (he68).size
    refine TL.eff rfl rfl (eff_store rfl rfl rfl hb73 cn_32 (allc_cons rfl (allc_cons rfl (allc_cons (slRep.one (ownR.slf hs54 (Nat.le_refl _) (Nat.le_refl _))) (allc_cons (slRep.one (ownR.slN hs56 (Nat.le_refl _) (Nat.le_refl _) (by omega))) (allc_cons (slRep.one (ownR.slf hs58 (Nat.le_refl _) (Nat.le_refl _))) (allc_cons rfl (allc_cons rfl allc_nil))))))) rfl) ?_
    rintro _ w77 ⟨hu78, hb79⟩
    have he80 : Ext w w77 := Below.trans he75 (Upd.below hu78 (by omega))
    have hb10 := Box.upd hb10 hu78 (by omega)
    have hs54 := ownR.upd hs54 hu78 (fun g hg => by have := hbd60 g hg; omega)
    have hs56 := ownR.updN hs56 hu78 (fun g hg => by have := hbd62 g hg; omega) (by omega)
    have hs58 := ownR.upd hs58 hu78 (fun g hg => by have := hbd64 g hg; omega)
    have hz81 := (hu78).size
    have hb73 : Box w77 b70 [.string r49.Name, .int .i64 r49.Kind, v53, v55, v57, .int .i64 r49.Leak, .int .i64 r49.Energy] 32 := hb79
    refine TL.done ?_
    refine NX.seq ?_
    refine WC.seq ?_
    refine WC.region ?_
    refine TL.yld rfl rfl (yld_loadN (us := [.string r49.Name, .int .i64 r49.Kind, v53, v55, v57, .int .i64 r49.Leak, .int .i64 r49.Energy]) rfl ag_32 rfl (Box.cells hb73) cn_32) ?_
    refine TL.yld rfl rfl (yld_move rfl rfl) ?_
    refine TL.yld rfl rfl (yld_move rfl rfl) ?_
    obtain ⟨r82, hr83, hF⟩ := bsome hF
    refine TL.eff rfl rfl (eff_call rfl gf_7 rfl (W_impl_ActiveLevel hr83 (ownR.slf hs54 (Nat.zero_le _) (Nat.le_refl _)) (ownR.slN hs56 (Nat.zero_le _) (Nat.le_refl _) (by omega)) (ownR.slf hs58 (Nat.zero_le _) (Nat.le_refl _)))) ?_
    rintro _ w84 ⟨rfl, hx85⟩
    have he86 : Ext w w84 := Ext.trans he80 hx85
    have hb10 := Box.ext hb10 hx85
    have hb73 := Box.ext hb73 hx85
    have hs54 := ownR.ext hs54 hx85
    have hs56 := ownR.extN hs56 hx85 (by omega)
    have hs58 := ownR.ext hs58 hx85
    have hz87 := (hx85).size
    refine TL.yld rfl rfl (yld_assign rfl rfl) ?_
    refine TL.done ?_
    refine NX.seq ?_
    refine WC.seq ?_
    refine WC.seq ?_
    refine WC.region ?_
    refine TL.yld rfl rfl (yld_move rfl rfl) ?_
    refine TL.yld rfl rfl (yld_move rfl rfl) ?_
    refine TL.yld rfl rfl (yld_neq rfl rfl rfl) ?_
    refine TL.done ?_
    refine NX.seq ?_
    refine WC.cond rfl ?_ ?_
    · intro hc88
      replace hF := bif_t hc88 hF
      refine WC.seq ?_
      refine WC.region ?_
      refine TL.yld rfl rfl (yld_assign rfl rfl) ?_
      refine TL.done ?_
      refine NX.seq ?_
      refine WC.ret' ?_
      refine NX.then_r ?_
      obtain rfl := Option.some.inj hF
      exact NX.end (rs := [.tmp 6]) (vs := [.bool false]) rfl ⟨rfl, trivial⟩ ⟨_, rfl, rfl, he86⟩
    · intro hc89
      replace hF := bif_f hc89 hF
      refine WC.skip' ?_
      refine NX.seq ?_
      refine WC.seq ?_
      refine WC.seq ?_
      obtain ⟨r90, hr91, hF⟩ := bsome hF
      obtain ⟨r111, hr112, hF⟩ := bsome hF
      refine WC.held 3 Tryz.hm fun w117 hx118 => ?_
      have he119 : Ext w w117 := Ext.trans he86 hx118
      have hb10 := Box.ext hb10 hx118
      have hb73 := Box.ext hb73 hx118
      have hs54 := ownR.ext hs54 hx118
      have hs56 := ownR.extN hs56 hx118 (by omega)
      have hs58 := ownR.ext hs58 hx118
      have hz120 := (hx118).size
      refine HL.yld 0 (by kernel_rfl) rfl (by kernel_rfl) rfl rfl (yld_loadN (us := [.string r49.Name, .int .i64 r49.Kind, v53, v55, v57, .int .i64 r49.Leak, .int .i64 r49.Energy]) rfl ag_32 rfl (Box.cells hb73) cn_32) ?_
      refine HL.yld 1 (by kernel_rfl) rfl (by kernel_rfl) rfl rfl (yld_loadN (us := [.string a0_aC.Name, .int .i64 a0_aC.Kind, v1, v3, v5, .int .i64 a0_aC.Leak, .int .i64 a0_aC.Energy]) rfl ag_26 rfl (Box.cells hb10) cn_26) ?_
      refine HL.eff 2 rfl rfl (by kernel_rfl) rfl rfl (eff_call rfl gf_6 rfl (W_laws_toCell hr91 ((slRep.old ha2 he119 (Nat.le_refl _)).wide (Nat.le_refl _) (he119).size) ((slRep.old ha4 he119 (Nat.le_refl _)).wide (Nat.le_refl _) (he119).size) ((slRep.old ha6 he119 (Nat.le_refl _)).wide (Nat.le_refl _) (he119).size))) ?_
      rintro _ w121 ⟨v123, v125, v127, rfl, hs124, hs126, hs128, hp135, hp136, hp137, hx122⟩
      have hbs138 : Ext w117 w121 := Ext.trans (Ext.refl w117) hx122
      have he139 : Ext w w121 := Ext.trans he119 hx122
      have hs54 := ownR.ext hs54 hx122
      have hs56 := ownR.extN hs56 hx122 (by omega)
      have hs58 := ownR.ext hs58 hx122
      have hz140 := (hx122).size
      have hbd130 := ownR.blk hs124
      have hbd132 := ownR.blk hs126
      have hbd134 := ownR.blk hs128
      refine ⟨hbs138, ?_⟩
      refine HL.tail rfl (by kernel_rfl) rfl ?_
      refine TL.eff rfl rfl (eff_call rfl gf_8 rfl (W_laws_eqCell hr112 (ownR.slf hs54 (Nat.zero_le _) (Nat.le_refl _)) (ownR.slN hs56 (Nat.zero_le _) (Nat.le_refl _) (by omega)) (ownR.slf hs58 (Nat.zero_le _) (Nat.le_refl _)) (ownR.slf hs124 (Nat.zero_le _) (Nat.le_refl _)) (ownR.slN hs126 (Nat.zero_le _) (Nat.le_refl _) (by omega)) (ownR.slf hs128 (Nat.zero_le _) (Nat.le_refl _)))) ?_
      rintro _ w141 ⟨rfl, hx142⟩
      have he143 : Ext w w141 := Ext.trans he139 hx142
      have hz144 := (hx142).size
      refine TL.yld rfl rfl (yld_not rfl rfl) ?_
      refine TL.noPan (l := []) ?_
      refine NX.seq ?_
      refine WC.cond rfl ?_ ?_
      · intro hc145
        replace hF := bif_t hc145 hF
        refine WC.seq ?_
        refine WC.region ?_
        refine TL.yld rfl rfl (yld_assign rfl rfl) ?_
        refine TL.done ?_
        refine NX.seq ?_
        refine WC.ret' ?_
        refine NX.then_r ?_
        obtain rfl := Option.some.inj hF
        exact NX.end (rs := [.tmp 6]) (vs := [.bool false]) rfl ⟨rfl, trivial⟩ ⟨_, rfl, rfl, he143⟩
      · intro hc146
        replace hF := bif_f hc146 hF
        refine WC.skip' ?_
        refine NX.seq ?_
        refine WC.seq ?_
        refine WC.region ?_
        refine TL.yld rfl rfl (yld_assign rfl rfl) ?_
        refine TL.done ?_
        refine NX.seq ?_
        refine WC.ret' ?_
        obtain rfl := Option.some.inj hF
        exact NX.end (rs := [.tmp 6]) (vs := [.bool true]) rfl ⟨rfl, trivial⟩ ⟨_, rfl, rfl, he143⟩

theorem Z_Pin {n : Nat} {a : S_Pin} {left : Int} (hR : R_Pin a) (h0 : 0 ≤ left) (h1 : left ≤ 1048576) (hn : 1048577 ≤ n) : ∃ r, F_laws_szPin n a left = some r ∧ r ≤ left ∧ (0 ≤ r → SM_Pin a) := by
  rw [F_laws_szPin]
  have g0 : a.Name.size ≤ 9223372036854775807 := maxLen_is ▸ hR.1
  have w0 : IntKind.wrap IntKind.i64 (left - (a.Name.size : Int)) = left - (a.Name.size : Int) := wrap64 (by omega) (by omega)
  rw [w0]
  generalize hq0 : left - (a.Name.size : Int) = r0
  by_cases h_0 : r0 < 0
  · rw [decide_eq_true h_0]; exact ⟨-1, rfl, by omega, fun h => by omega⟩
  rw [decide_eq_false h_0, cond_false]
  exact ⟨_, rfl, by omega, fun _ => ⟨(by omega), trivial, trivial, trivial⟩⟩
theorem Z_PinS {n : Nat} {a : List S_Pin} {left : Int} (hR : (fun xs => xs.length ≤ 9223372036854775807 ∧ ∀ x ∈ xs, R_Pin x) a) (h0 : 0 ≤ left) (h1 : left ≤ 1048576) (hn : 1048577 ≤ n) : ∃ r, F_laws_szPinS n a left = some r ∧ r ≤ left ∧ (0 ≤ r → (fun xs => xs.length ≤ 1048576 ∧ ∀ x ∈ xs, SM_Pin x) a) := by
  have hl := hR.1
  rw [F_laws_szPinS, wrap64 (by omega) (by omega)]
  by_cases h : left - (a.length : Int) < 0
  · rw [decide_eq_true h]; exact ⟨-1, rfl, by omega, fun h => by omega⟩
  · rw [decide_eq_false h, cond_false]
    obtain ⟨r, e, hr, hs⟩ := szL (xs := a) (L := fun m l i => F_laws_szPinS_L1 n a (fun i7 i8 => (some i7)) m l i) (f := F_laws_szPin n) (SM := SM_Pin) (by omega) (fun x hx left g0 g1 => Z_Pin (hR.2 x hx) g0 g1 hn) (fun m i left hi hi2 => by simp only [F_laws_szPinS_L1_s, dltE hi, cond_true, getI_elE hi, Option.bind_some, wSE hi2]) (fun m left => by simp only [F_laws_szPinS_L1_s, dnlE, cond_false]) n 0 (left - (a.length : Int)) (by omega) (by omega) (by omega) (by omega) (fun j _ hj => by omega)
    exact ⟨r, e, by omega, fun h => ⟨by omega, hs h⟩⟩
theorem Z_Int64S {n : Nat} {a : List Int} {left : Int} (hR : (fun xs => xs.length ≤ 9223372036854775807 ∧ ∀ x ∈ xs, (inK .i64) x) a) (h0 : 0 ≤ left) (h1 : left ≤ 1048576) (hn : 1048577 ≤ n) : ∃ r, F_laws_szInt64S n a left = some r ∧ r ≤ left ∧ (0 ≤ r → (fun xs => xs.length ≤ 1048576 ∧ ∀ x ∈ xs, (fun _ => True) x) a) := by
  have hl := hR.1
  rw [F_laws_szInt64S, wrap64 (by omega) (by omega)]
  by_cases h : left - (a.length : Int) < 0
  · rw [decide_eq_true h]; exact ⟨-1, rfl, by omega, fun h => by omega⟩
  · rw [decide_eq_false h]; exact ⟨_, rfl, by omega, fun _ => ⟨by omega, fun x _ => trivial⟩⟩
theorem Z_Table {n : Nat} {a : S_Table} {left : Int} (hR : R_Table a) (h0 : 0 ≤ left) (h1 : left ≤ 1048576) (hn : 1048577 ≤ n) : ∃ r, F_laws_szTable n a left = some r ∧ r ≤ left ∧ (0 ≤ r → SM_Table a) := by
  rw [F_laws_szTable]
  obtain ⟨r0, e0, l0, s0⟩ := Z_Int64S (n := n) (left := left) hR.1 h0 h1 hn
  rw [e0, Option.bind_some]
  by_cases h_0 : r0 < 0
  · rw [decide_eq_true h_0]; exact ⟨-1, rfl, by omega, fun h => by omega⟩
  rw [decide_eq_false h_0, cond_false]
  obtain ⟨r1, e1, l1, s1⟩ := Z_Int64S (n := n) (left := r0) hR.2.1 (show (0 : Int) ≤ r0 by omega) (by omega) hn
  rw [e1, Option.bind_some]
  by_cases h_1 : r1 < 0
  · rw [decide_eq_true h_1]; exact ⟨-1, rfl, by omega, fun h => by omega⟩
  rw [decide_eq_false h_1, cond_false]
  obtain ⟨r2, e2, l2, s2⟩ := Z_Int64S (n := n) (left := r1) hR.2.2 (show (0 : Int) ≤ r1 by omega) (by omega) hn
  rw [e2, Option.bind_some]
  by_cases h_2 : r2 < 0
  · rw [decide_eq_true h_2]; exact ⟨-1, rfl, by omega, fun h => by omega⟩
  rw [decide_eq_false h_2, cond_false]
  exact ⟨_, rfl, by omega, fun _ => ⟨s0 (by omega), s1 (by omega), s2 (by omega)⟩⟩
theorem Z_TableS {n : Nat} {a : List S_Table} {left : Int} (hR : (fun xs => xs.length ≤ 9223372036854775807 ∧ ∀ x ∈ xs, R_Table x) a) (h0 : 0 ≤ left) (h1 : left ≤ 1048576) (hn : 1048577 ≤ n) : ∃ r, F_laws_szTableS n a left = some r ∧ r ≤ left ∧ (0 ≤ r → (fun xs => xs.length ≤ 1048576 ∧ ∀ x ∈ xs, SM_Table x) a) := by
  have hl := hR.1
  rw [F_laws_szTableS, wrap64 (by omega) (by omega)]
  by_cases h : left - (a.length : Int) < 0
  · rw [decide_eq_true h]; exact ⟨-1, rfl, by omega, fun h => by omega⟩
  · rw [decide_eq_false h, cond_false]
    obtain ⟨r, e, hr, hs⟩ := szL (xs := a) (L := fun m l i => F_laws_szTableS_L1 n a (fun i7 i8 => (some i7)) m l i) (f := F_laws_szTable n) (SM := SM_Table) (by omega) (fun x hx left g0 g1 => Z_Table (hR.2 x hx) g0 g1 hn) (fun m i left hi hi2 => by simp only [F_laws_szTableS_L1_s, dltE hi, cond_true, getI_elE hi, Option.bind_some, wSE hi2]) (fun m left => by simp only [F_laws_szTableS_L1_s, dnlE, cond_false]) n 0 (left - (a.length : Int)) (by omega) (by omega) (by omega) (by omega) (fun j _ hj => by omega)
    exact ⟨r, e, by omega, fun h => ⟨by omega, hs h⟩⟩
theorem Z_Arc {n : Nat} {a : S_Arc} {left : Int} (hR : R_Arc a) (h0 : 0 ≤ left) (h1 : left ≤ 1048576) (hn : 1048577 ≤ n) : ∃ r, F_laws_szArc n a left = some r ∧ r ≤ left ∧ (0 ≤ r → SM_Arc a) := by
  rw [F_laws_szArc]
  obtain ⟨r0, e0, l0, s0⟩ := Z_TableS (n := n) (left := left) hR.2.2.2.2.1 h0 h1 hn
  rw [e0, Option.bind_some]
  by_cases h_0 : r0 < 0
  · rw [decide_eq_true h_0]; exact ⟨-1, rfl, by omega, fun h => by omega⟩
  rw [decide_eq_false h_0, cond_false]
  obtain ⟨r1, e1, l1, s1⟩ := Z_TableS (n := n) (left := r0) hR.2.2.2.2.2 (show (0 : Int) ≤ r0 by omega) (by omega) hn
  rw [e1, Option.bind_some]
  by_cases h_1 : r1 < 0
  · rw [decide_eq_true h_1]; exact ⟨-1, rfl, by omega, fun h => by omega⟩
  rw [decide_eq_false h_1, cond_false]
  exact ⟨_, rfl, by omega, fun _ => ⟨trivial, trivial, trivial, trivial, s0 (by omega), s1 (by omega)⟩⟩
theorem Z_ArcS {n : Nat} {a : List S_Arc} {left : Int} (hR : (fun xs => xs.length ≤ 9223372036854775807 ∧ ∀ x ∈ xs, R_Arc x) a) (h0 : 0 ≤ left) (h1 : left ≤ 1048576) (hn : 1048577 ≤ n) : ∃ r, F_laws_szArcS n a left = some r ∧ r ≤ left ∧ (0 ≤ r → (fun xs => xs.length ≤ 1048576 ∧ ∀ x ∈ xs, SM_Arc x) a) := by
  have hl := hR.1
  rw [F_laws_szArcS, wrap64 (by omega) (by omega)]
  by_cases h : left - (a.length : Int) < 0
  · rw [decide_eq_true h]; exact ⟨-1, rfl, by omega, fun h => by omega⟩
  · rw [decide_eq_false h, cond_false]
    obtain ⟨r, e, hr, hs⟩ := szL (xs := a) (L := fun m l i => F_laws_szArcS_L1 n a (fun i7 i8 => (some i7)) m l i) (f := F_laws_szArc n) (SM := SM_Arc) (by omega) (fun x hx left g0 g1 => Z_Arc (hR.2 x hx) g0 g1 hn) (fun m i left hi hi2 => by simp only [F_laws_szArcS_L1_s, dltE hi, cond_true, getI_elE hi, Option.bind_some, wSE hi2]) (fun m left => by simp only [F_laws_szArcS_L1_s, dnlE, cond_false]) n 0 (left - (a.length : Int)) (by omega) (by omega) (by omega) (by omega) (fun j _ hj => by omega)
    exact ⟨r, e, by omega, fun h => ⟨by omega, hs h⟩⟩
theorem Z_Cell {n : Nat} {a : S_Cell} {left : Int} (hR : R_Cell a) (h0 : 0 ≤ left) (h1 : left ≤ 1048576) (hn : 1048577 ≤ n) : ∃ r, F_laws_szCell n a left = some r ∧ r ≤ left ∧ (0 ≤ r → SM_Cell a) := by
  rw [F_laws_szCell]
  have g0 : a.Name.size ≤ 9223372036854775807 := maxLen_is ▸ hR.1
  have w0 : IntKind.wrap IntKind.i64 (left - (a.Name.size : Int)) = left - (a.Name.size : Int) := wrap64 (by omega) (by omega)
  rw [w0]
  generalize hq0 : left - (a.Name.size : Int) = r0
  by_cases h_0 : r0 < 0
  · rw [decide_eq_true h_0]; exact ⟨-1, rfl, by omega, fun h => by omega⟩
  rw [decide_eq_false h_0, cond_false]
  obtain ⟨r1, e1, l1, s1⟩ := Z_PinS (n := n) (left := r0) hR.2.2.1 (show (0 : Int) ≤ r0 by omega) (by omega) hn
  rw [e1, Option.bind_some]
  by_cases h_1 : r1 < 0
  · rw [decide_eq_true h_1]; exact ⟨-1, rfl, by omega, fun h => by omega⟩
  rw [decide_eq_false h_1, cond_false]
  obtain ⟨r2, e2, l2, s2⟩ := Z_ArcS (n := n) (left := r1) hR.2.2.2.1 (show (0 : Int) ≤ r1 by omega) (by omega) hn
  rw [e2, Option.bind_some]
  by_cases h_2 : r2 < 0
  · rw [decide_eq_true h_2]; exact ⟨-1, rfl, by omega, fun h => by omega⟩
  rw [decide_eq_false h_2, cond_false]
  obtain ⟨r3, e3, l3, s3⟩ := Z_Int64S (n := n) (left := r2) hR.2.2.2.2.1 (show (0 : Int) ≤ r2 by omega) (by omega) hn
  rw [e3, Option.bind_some]
  by_cases h_3 : r3 < 0
  · rw [decide_eq_true h_3]; exact ⟨-1, rfl, by omega, fun h => by omega⟩
  rw [decide_eq_false h_3, cond_false]
  exact ⟨_, rfl, by omega, fun _ => ⟨(by omega), trivial, s1 (by omega), s2 (by omega), s3 (by omega), trivial, trivial⟩⟩
theorem T_Pin {n : Nat} {a : S_Pin} (h : SM_Pin a) (hn : 1048577 ≤ n) : F_laws_toPin n a = some a := by
  rfl
theorem TL_PinS {n : Nat} {a : List S_Pin} {k : Int → List S_Pin → Option (List S_Pin)} : ∀ (m : Nat) (i : Int) (l : List S_Pin), F_laws_toPinS_L1 n a k m i l = cpL a (F_laws_toPin n) k m i l
  | 0, _, _ => rfl
  | m + 1, i, l => by simp only [F_laws_toPinS_L1_s, cpL_s, Option.bind_some, TL_PinS (n := n) (a := a) (k := k) m]
theorem T_PinS {n : Nat} {a : List S_Pin} (h : (fun xs => xs.length ≤ 1048576 ∧ ∀ x ∈ xs, SM_Pin x) a) (hn : 1048577 ≤ n) : F_laws_toPinS n a = some a := by
  rw [F_laws_toPinS, mkN_ok h.1 (by omega), Option.bind_some, TL_PinS (n := n)]
  exact cpL_id (fun x hx => T_Pin (h.2 x hx) hn) h.1 hn
theorem TL_Int64S {n : Nat} {a : List Int} {k : Int → List Int → Option (List Int)} : ∀ (m : Nat) (i : Int) (l : List Int), F_laws_toInt64S_L1 a k m i l = cpL a (some) k m i l
  | 0, _, _ => rfl
  | m + 1, i, l => by simp only [F_laws_toInt64S_L1_s, cpL_s, Option.bind_some, TL_Int64S (n := n) (a := a) (k := k) m]
theorem T_Int64S {n : Nat} {a : List Int} (h : (fun xs => xs.length ≤ 1048576 ∧ ∀ x ∈ xs, (fun _ => True) x) a) (hn : 1048577 ≤ n) : F_laws_toInt64S n a = some a := by
  rw [F_laws_toInt64S, mkN_ok h.1 (by omega), Option.bind_some, TL_Int64S (n := n)]
  exact cpL_id (fun x hx => rfl) h.1 hn
theorem T_Table {n : Nat} {a : S_Table} (h : SM_Table a) (hn : 1048577 ≤ n) : F_laws_toTable n a = some a := by
  rw [F_laws_toTable]; simp only [T_Int64S (h.1) hn, T_Int64S (h.2.1) hn, T_Int64S (h.2.2) hn, Option.bind_some]
theorem TL_TableS {n : Nat} {a : List S_Table} {k : Int → List S_Table → Option (List S_Table)} : ∀ (m : Nat) (i : Int) (l : List S_Table), F_laws_toTableS_L1 n a k m i l = cpL a (F_laws_toTable n) k m i l
  | 0, _, _ => rfl
  | m + 1, i, l => by simp only [F_laws_toTableS_L1_s, cpL_s, Option.bind_some, TL_TableS (n := n) (a := a) (k := k) m]
theorem T_TableS {n : Nat} {a : List S_Table} (h : (fun xs => xs.length ≤ 1048576 ∧ ∀ x ∈ xs, SM_Table x) a) (hn : 1048577 ≤ n) : F_laws_toTableS n a = some a := by
  rw [F_laws_toTableS, mkN_ok h.1 (by omega), Option.bind_some, TL_TableS (n := n)]
  exact cpL_id (fun x hx => T_Table (h.2 x hx) hn) h.1 hn
theorem T_Arc {n : Nat} {a : S_Arc} (h : SM_Arc a) (hn : 1048577 ≤ n) : F_laws_toArc n a = some a := by
  rw [F_laws_toArc]; simp only [T_TableS (h.2.2.2.2.1) hn, T_TableS (h.2.2.2.2.2) hn, Option.bind_some]
theorem TL_ArcS {n : Nat} {a : List S_Arc} {k : Int → List S_Arc → Option (List S_Arc)} : ∀ (m : Nat) (i : Int) (l : List S_Arc), F_laws_toArcS_L1 n a k m i l = cpL a (F_laws_toArc n) k m i l
  | 0, _, _ => rfl
  | m + 1, i, l => by simp only [F_laws_toArcS_L1_s, cpL_s, Option.bind_some, TL_ArcS (n := n) (a := a) (k := k) m]
theorem T_ArcS {n : Nat} {a : List S_Arc} (h : (fun xs => xs.length ≤ 1048576 ∧ ∀ x ∈ xs, SM_Arc x) a) (hn : 1048577 ≤ n) : F_laws_toArcS n a = some a := by
  rw [F_laws_toArcS, mkN_ok h.1 (by omega), Option.bind_some, TL_ArcS (n := n)]
  exact cpL_id (fun x hx => T_Arc (h.2 x hx) hn) h.1 hn
theorem T_Cell {n : Nat} {a : S_Cell} (h : SM_Cell a) (hn : 1048577 ≤ n) : F_laws_toCell n a = some a := by
  rw [F_laws_toCell]; simp only [T_PinS (h.2.2.1) hn, T_ArcS (h.2.2.2.1) hn, T_Int64S (h.2.2.2.2.1) hn, Option.bind_some]
theorem E_Pin {n : Nat} {a : S_Pin} (h : SM_Pin a) (hn : 1048577 ≤ n) : F_laws_eqPin n a a = some true := by
  simp [F_laws_eqPin]
theorem EL_PinS {n : Nat} {a b : List S_Pin} {k : Int → Option Bool} : ∀ (m : Nat) (i : Int), F_laws_eqPinS_L1 n a b k m i = eqL a b (F_laws_eqPin n) (some false) k m i
  | 0, _ => rfl
  | m + 1, i => by simp only [F_laws_eqPinS_L1_s, eqL_s, Option.bind_some, bne, EL_PinS (n := n) (a := a) (b := b) (k := k) m]
theorem E_PinS {n : Nat} {a : List S_Pin} (h : (fun xs => xs.length ≤ 1048576 ∧ ∀ x ∈ xs, SM_Pin x) a) (hn : 1048577 ≤ n) : F_laws_eqPinS n a a = some true := by
  rw [F_laws_eqPinS, EL_PinS (n := n)]
  have := eqL_same (f := F_laws_eqPin n) (no := some false) (k := fun (i : Int) => some true) (fun x hx => E_Pin (h.2 x hx) hn) h.1 n 0 (by omega) (by omega)
  simpa using this
theorem EL_Int64S {n : Nat} {a b : List Int} {k : Int → Option Bool} : ∀ (m : Nat) (i : Int), F_laws_eqInt64S_L1 a b k m i = eqL a b ((fun x y => some (x == y))) (some false) k m i
  | 0, _ => rfl
  | m + 1, i => by simp only [F_laws_eqInt64S_L1_s, eqL_s, Option.bind_some, bne, EL_Int64S (n := n) (a := a) (b := b) (k := k) m]
theorem E_Int64S {n : Nat} {a : List Int} (h : (fun xs => xs.length ≤ 1048576 ∧ ∀ x ∈ xs, (fun _ => True) x) a) (hn : 1048577 ≤ n) : F_laws_eqInt64S n a a = some true := by
  rw [F_laws_eqInt64S, EL_Int64S (n := n)]
  have := eqL_same (f := (fun x y => some (x == y))) (no := some false) (k := fun (i : Int) => some true) (fun x hx => by simp) h.1 n 0 (by omega) (by omega)
  simpa using this
theorem E_Table {n : Nat} {a : S_Table} (h : SM_Table a) (hn : 1048577 ≤ n) : F_laws_eqTable n a a = some true := by
  simp [F_laws_eqTable, E_Int64S (h.1) hn, E_Int64S (h.2.1) hn, E_Int64S (h.2.2) hn]
theorem EL_TableS {n : Nat} {a b : List S_Table} {k : Int → Option Bool} : ∀ (m : Nat) (i : Int), F_laws_eqTableS_L1 n a b k m i = eqL a b (F_laws_eqTable n) (some false) k m i
  | 0, _ => rfl
  | m + 1, i => by simp only [F_laws_eqTableS_L1_s, eqL_s, Option.bind_some, bne, EL_TableS (n := n) (a := a) (b := b) (k := k) m]
theorem E_TableS {n : Nat} {a : List S_Table} (h : (fun xs => xs.length ≤ 1048576 ∧ ∀ x ∈ xs, SM_Table x) a) (hn : 1048577 ≤ n) : F_laws_eqTableS n a a = some true := by
  rw [F_laws_eqTableS, EL_TableS (n := n)]
  have := eqL_same (f := F_laws_eqTable n) (no := some false) (k := fun (i : Int) => some true) (fun x hx => E_Table (h.2 x hx) hn) h.1 n 0 (by omega) (by omega)
  simpa using this
theorem E_Arc {n : Nat} {a : S_Arc} (h : SM_Arc a) (hn : 1048577 ≤ n) : F_laws_eqArc n a a = some true := by
  simp [F_laws_eqArc, E_TableS (h.2.2.2.2.1) hn, E_TableS (h.2.2.2.2.2) hn]
theorem EL_ArcS {n : Nat} {a b : List S_Arc} {k : Int → Option Bool} : ∀ (m : Nat) (i : Int), F_laws_eqArcS_L1 n a b k m i = eqL a b (F_laws_eqArc n) (some false) k m i
  | 0, _ => rfl
  | m + 1, i => by simp only [F_laws_eqArcS_L1_s, eqL_s, Option.bind_some, bne, EL_ArcS (n := n) (a := a) (b := b) (k := k) m]
theorem E_ArcS {n : Nat} {a : List S_Arc} (h : (fun xs => xs.length ≤ 1048576 ∧ ∀ x ∈ xs, SM_Arc x) a) (hn : 1048577 ≤ n) : F_laws_eqArcS n a a = some true := by
  rw [F_laws_eqArcS, EL_ArcS (n := n)]
  have := eqL_same (f := F_laws_eqArc n) (no := some false) (k := fun (i : Int) => some true) (fun x hx => E_Arc (h.2 x hx) hn) h.1 n 0 (by omega) (by omega)
  simpa using this
theorem E_Cell {n : Nat} {a : S_Cell} (h : SM_Cell a) (hn : 1048577 ≤ n) : F_laws_eqCell n a a = some true := by
  simp [F_laws_eqCell, E_PinS (h.2.2.1) hn, E_ArcS (h.2.2.2.1) hn, E_Int64S (h.2.2.2.2.1) hn]
theorem Rd_2 : Rd Tryz.prog 2 (cInt .i64) (inK .i64) := Rd.int Tryz.underlying2
theorem Rd_9 : Rd Tryz.prog 9 cStr (fun s => s.size ≤ maxLen) := Rd.str Tryz.underlying9
theorem Rd_4 : Rd Tryz.prog 4 cBool (fun _ => True) := Rd.bool Tryz.underlying4
theorem Rd_51 : Rd Tryz.prog 51 C_Pin R_Pin := Rd.map (Rd.struct (fs := [_, _, _, _]) Tryz.underlying51 (by kernel_rfl) (RdF.cons Rd_9 rfl (by kernel_rfl) (RdF.cons Rd_2 rfl (by kernel_rfl) (RdF.cons Rd_2 rfl (by kernel_rfl) (RdF.one Rd_4 rfl (by kernel_rfl)))))) (fun (x : S_Pin) => (x.Name, x.Dir, x.Cap, x.Clock)) (fun p => (⟨p.1, p.2.1, p.2.2.1, p.2.2.2⟩ : S_Pin)) (fun _ => rfl)
theorem Rd_22 : Rd Tryz.prog 22 (cSl C_Pin) (fun xs => xs.length ≤ 9223372036854775807 ∧ ∀ x ∈ xs, R_Pin x) := Rd.slice Tryz.underlying22 (by kernel_rfl) rfl Rd_51
theorem Rd_24 : Rd Tryz.prog 24 (cSl (cInt .i64)) (fun xs => xs.length ≤ 9223372036854775807 ∧ ∀ x ∈ xs, (inK .i64) x) := Rd.slice Tryz.underlying24 (by kernel_rfl) rfl Rd_2
theorem Rd_89 : Rd Tryz.prog 89 C_Table R_Table := Rd.map (Rd.struct (fs := [_, _, _]) Tryz.underlying89 (by kernel_rfl) (RdF.cons Rd_24 rfl (by kernel_rfl) (RdF.cons Rd_24 rfl (by kernel_rfl) (RdF.one Rd_24 rfl (by kernel_rfl))))) (fun (x : S_Table) => (x.Slews, x.Loads, x.Values)) (fun p => (⟨p.1, p.2.1, p.2.2⟩ : S_Table)) (fun _ => rfl)
theorem Rd_53 : Rd Tryz.prog 53 (cSl C_Table) (fun xs => xs.length ≤ 9223372036854775807 ∧ ∀ x ∈ xs, R_Table x) := Rd.slice Tryz.underlying53 (by kernel_rfl) rfl Rd_89
theorem Rd_55 : Rd Tryz.prog 55 C_Arc R_Arc := Rd.map (Rd.struct (fs := [_, _, _, _, _, _]) Tryz.underlying55 (by kernel_rfl) (RdF.cons Rd_2 rfl (by kernel_rfl) (RdF.cons Rd_2 rfl (by kernel_rfl) (RdF.cons Rd_2 rfl (by kernel_rfl) (RdF.cons Rd_2 rfl (by kernel_rfl) (RdF.cons Rd_53 rfl (by kernel_rfl) (RdF.one Rd_53 rfl (by kernel_rfl)))))))) (fun (x : S_Arc) => (x.Kind, x.From, x.To, x.Sense, x.Delay, x.Slew)) (fun p => (⟨p.1, p.2.1, p.2.2.1, p.2.2.2.1, p.2.2.2.2.1, p.2.2.2.2.2⟩ : S_Arc)) (fun _ => rfl)
theorem Rd_23 : Rd Tryz.prog 23 (cSl C_Arc) (fun xs => xs.length ≤ 9223372036854775807 ∧ ∀ x ∈ xs, R_Arc x) := Rd.slice Tryz.underlying23 (by kernel_rfl) rfl Rd_55
theorem Rd_26 : Rd Tryz.prog 26 C_Cell R_Cell := Rd.map (Rd.struct (fs := [_, _, _, _, _, _, _]) Tryz.underlying26 (by kernel_rfl) (RdF.cons Rd_9 rfl (by kernel_rfl) (RdF.cons Rd_2 rfl (by kernel_rfl) (RdF.cons Rd_22 rfl (by kernel_rfl) (RdF.cons Rd_23 rfl (by kernel_rfl) (RdF.cons Rd_24 rfl (by kernel_rfl) (RdF.cons Rd_2 rfl (by kernel_rfl) (RdF.one Rd_2 rfl (by kernel_rfl))))))))) (fun (x : S_Cell) => (x.Name, x.Kind, x.Pins, x.Arcs, x.Truth, x.Leak, x.Energy)) (fun p => (⟨p.1, p.2.1, p.2.2.1, p.2.2.2.1, p.2.2.2.2.1, p.2.2.2.2.2.1, p.2.2.2.2.2.2⟩ : S_Cell)) (fun _ => rfl)
end Go.Proofs.YthjagnioabgceabGreatDoor
