/- The walks: every function that FnDepartures reaches computes the plain function that is typed beside it; no condition. -/
import Derived.Test.YtmhmpfckdhiijaaProg
import Derived.Test.YtmhmpfckdhiijaaDat
set_option linter.all false
set_option maxRecDepth 20000
namespace Go.Proofs.Ytmhmpfckdhiijaa
open Go Go.RowKit Go.Eng
theorem Try.hm : Try.prog.follows .mixedOrders = true := by kernel_rfl
theorem ag_2 : aggB Try.prog 2 = some false := by kernel_rfl
theorem ag_3 : aggB Try.prog 3 = some false := by kernel_rfl
theorem ag_35 : aggB Try.prog 35 = some false := by kernel_rfl
theorem ag_36 : aggB Try.prog 36 = some false := by kernel_rfl
theorem ag_38 : aggB Try.prog 38 = some true := by kernel_rfl
theorem ag_4 : aggB Try.prog 4 = some false := by kernel_rfl
theorem ag_42 : aggB Try.prog 42 = some false := by kernel_rfl
theorem ag_5 : aggB Try.prog 5 = some false := by kernel_rfl
theorem ag_50 : aggB Try.prog 50 = some true := by kernel_rfl
theorem ag_60 : aggB Try.prog 60 = some false := by kernel_rfl
theorem ag_77 : aggB Try.prog 77 = some true := by kernel_rfl
theorem cn_2 : cellsN Try.prog 2 = some 1 := by kernel_rfl
theorem cn_3 : cellsN Try.prog 3 = some 1 := by kernel_rfl
theorem cn_38 : cellsN Try.prog 38 = some 2 := by kernel_rfl
theorem cn_4 : cellsN Try.prog 4 = some 1 := by kernel_rfl
theorem cn_5 : cellsN Try.prog 5 = some 1 := by kernel_rfl
theorem cn_50 : cellsN Try.prog 50 = some 2 := by kernel_rfl
theorem cn_60 : cellsN Try.prog 60 = some 1 := by kernel_rfl
theorem cn_77 : cellsN Try.prog 77 = some 4 := by kernel_rfl
theorem fo_115_0 : fieldOff Try.prog 115 0 = some 0 := by kernel_rfl
theorem fo_115_1 : fieldOff Try.prog 115 1 = some 1 := by kernel_rfl
theorem fo_115_2 : fieldOff Try.prog 115 2 = some 2 := by kernel_rfl
theorem fo_38_0 : fieldOff Try.prog 38 0 = some 0 := by kernel_rfl
theorem fo_38_1 : fieldOff Try.prog 38 1 = some 1 := by kernel_rfl
theorem fo_50_0 : fieldOff Try.prog 50 0 = some 0 := by kernel_rfl
theorem fo_50_1 : fieldOff Try.prog 50 1 = some 1 := by kernel_rfl
theorem fo_77_0 : fieldOff Try.prog 77 0 = some 0 := by kernel_rfl
theorem fo_77_1 : fieldOff Try.prog 77 1 = some 1 := by kernel_rfl
theorem fo_77_2 : fieldOff Try.prog 77 2 = some 2 := by kernel_rfl
theorem fo_77_3 : fieldOff Try.prog 77 3 = some 3 := by kernel_rfl
theorem fo_99_0 : fieldOff Try.prog 99 0 = some 0 := by kernel_rfl
theorem fo_99_1 : fieldOff Try.prog 99 1 = some 1 := by kernel_rfl
theorem fo_99_2 : fieldOff Try.prog 99 2 = some 2 := by kernel_rfl
theorem gf_100 : goFn Try.prog 100 = true := by kernel_rfl
theorem gf_101 : goFn Try.prog 101 = true := by kernel_rfl
theorem gf_109 : goFn Try.prog 109 = true := by kernel_rfl
theorem gf_19 : goFn Try.prog 19 = true := by kernel_rfl
theorem gf_21 : goFn Try.prog 21 = true := by kernel_rfl
theorem gf_23 : goFn Try.prog 23 = true := by kernel_rfl
theorem gf_27 : goFn Try.prog 27 = true := by kernel_rfl
theorem gf_30 : goFn Try.prog 30 = true := by kernel_rfl
theorem gf_35 : goFn Try.prog 35 = true := by kernel_rfl
theorem gf_37 : goFn Try.prog 37 = true := by kernel_rfl
theorem gf_38 : goFn Try.prog 38 = true := by kernel_rfl
theorem gf_39 : goFn Try.prog 39 = true := by kernel_rfl
theorem gf_40 : goFn Try.prog 40 = true := by kernel_rfl
theorem gf_57 : goFn Try.prog 57 = true := by kernel_rfl
theorem gf_60 : goFn Try.prog 60 = true := by kernel_rfl
theorem gf_61 : goFn Try.prog 61 = true := by kernel_rfl
theorem gf_64 : goFn Try.prog 64 = true := by kernel_rfl
theorem gf_65 : goFn Try.prog 65 = true := by kernel_rfl
theorem gf_66 : goFn Try.prog 66 = true := by kernel_rfl
theorem gf_67 : goFn Try.prog 67 = true := by kernel_rfl
theorem gf_75 : goFn Try.prog 75 = true := by kernel_rfl
theorem gf_76 : goFn Try.prog 76 = true := by kernel_rfl
theorem gf_77 : goFn Try.prog 77 = true := by kernel_rfl
theorem gf_78 : goFn Try.prog 78 = true := by kernel_rfl
theorem gf_93 : goFn Try.prog 93 = true := by kernel_rfl
theorem gf_94 : goFn Try.prog 94 = true := by kernel_rfl
theorem gf_95 : goFn Try.prog 95 = true := by kernel_rfl
theorem gf_96 : goFn Try.prog 96 = true := by kernel_rfl
theorem in_2 : infoN Try.prog 2 = some ([.int .i64 0], 1, 8) := by kernel_rfl
theorem in_4 : infoN Try.prog 4 = some ([.bool false], 1, 1) := by kernel_rfl
theorem in_50 : infoN Try.prog 50 = some ([.int .i64 0, .int .i64 0], 2, 16) := by kernel_rfl
theorem in_77 : infoN Try.prog 77 = some ([.int .i64 0, .int .i64 0, .int .i64 0, .int .i64 0], 4, 32) := by kernel_rfl
theorem pl_115 : placesN Try.prog 115 = some [(0, 1), (1, 1), (2, 1)] := by kernel_rfl
theorem pl_38 : placesN Try.prog 38 = some [(0, 1), (1, 1)] := by kernel_rfl
theorem pl_50 : placesN Try.prog 50 = some [(0, 1), (1, 1)] := by kernel_rfl
theorem pl_77 : placesN Try.prog 77 = some [(0, 1), (1, 1), (2, 1), (3, 1)] := by kernel_rfl
theorem pl_99 : placesN Try.prog 99 = some [(0, 1), (1, 1), (2, 1)] := by kernel_rfl
theorem zn_115 : zeroN Try.prog 115 = some [.slice none 0 0, .int .i64 0, .int .i64 0] := by kernel_rfl
theorem zn_38 : zeroN Try.prog 38 = some [.slice none 0 0, .slice none 0 0] := by kernel_rfl
theorem zn_50 : zeroN Try.prog 50 = some [.int .i64 0, .int .i64 0] := by kernel_rfl
theorem zn_77 : zeroN Try.prog 77 = some [.int .i64 0, .int .i64 0, .int .i64 0, .int .i64 0] := by kernel_rfl
theorem zn_99 : zeroN Try.prog 99 = some [.slice none 0 0, .int .i64 0, .int .u64 0] := by kernel_rfl
-- loop.example/g00861/laws.big
def F_laws_big (n : Nat) (a0_code : List Int) : Option Bool := (some (decide ((a0_code.length : Int) > 4096)))
set_option maxHeartbeats 40000000 in
theorem W_laws_big {n : Nat} {a0_code : List Int} {r : Bool} {w : World} {v1 : Value} (hF : F_laws_big n a0_code = some r) (ha2 : slRep (cInt .u8) w (Iv 0 w.heap.size) a0_code v1) :
    Calls Try.prog 23 [v1].toArray w (Ret fun u w2 => u = .bool r ∧ Ext w w2) := by
  refine calls_of Try.func23 rfl Try.ntmps23 ?_
  have he0 : Ext w w := Ext.refl w
  unfold F_laws_big at hF
  refine WC.seq ?_
  refine WC.region ?_
  refine TL.yld rfl rfl (yld_assign rfl rfl) ?_
  refine TL.done ?_
  refine NX.seq ?_
  refine WC.seq ?_
  refine WC.region ?_
  refine TL.yld rfl rfl (yld_move rfl rfl) ?_
  refine TL.yld rfl rfl (ye_len (c := (cInt .u8)) rfl Try.underlying42 rfl (slRep.old ha2 he0 (Nat.le_refl _))) ?_
  refine TL.yld rfl rfl (yld_gtr rfl rfl rfl) ?_
  refine TL.yld rfl rfl (yld_assign rfl rfl) ?_
  refine TL.done ?_
  refine NX.seq ?_
  refine WC.ret' ?_
  obtain rfl := Option.some.inj hF
  exact NX.end (rs := [.tmp 2]) (vs := [.bool (decide ((a0_code.length : Int) > 4096))]) rfl ⟨rfl, trivial⟩ ⟨_, rfl, rfl, he0⟩

-- loop.example/g00861/laws.likeInts
def F_laws_likeInts_L1 (a0_a : List Int) (a1_b : List Int) (k0 : Int → Option Bool) : Nat → Int → Option Bool
  | 0 => fun _ => none
  | m + 1 => fun i9 => (bif decide (i9 < (a0_a.length : Int)) then (Option.bind (getI a0_a i9) fun x11 => (Option.bind (getI a1_b i9) fun x19 => (bif (x11 != x19) then (some false) else (F_laws_likeInts_L1 a0_a a1_b k0 m (IntKind.wrap IntKind.i64 (i9 + 1)))))) else (k0 i9))
theorem F_laws_likeInts_L1_z (a0_a : List Int) (a1_b : List Int) (k0 : Int → Option Bool) (i9 : Int) : F_laws_likeInts_L1 a0_a a1_b k0 0 i9 = none := rfl
theorem F_laws_likeInts_L1_s (m : Nat) (a0_a : List Int) (a1_b : List Int) (k0 : Int → Option Bool) (i9 : Int) : F_laws_likeInts_L1 a0_a a1_b k0 (m + 1) i9 = (bif decide (i9 < (a0_a.length : Int)) then (Option.bind (getI a0_a i9) fun x11 => (Option.bind (getI a1_b i9) fun x19 => (bif (x11 != x19) then (some false) else (F_laws_likeInts_L1 a0_a a1_b k0 m (IntKind.wrap IntKind.i64 (i9 + 1)))))) else (k0 i9)) := rfl

def F_laws_likeInts (n : Nat) (a0_a : List Int) (a1_b : List Int) : Option Bool := (bif (((a0_a.length : Int)) != ((a1_b.length : Int))) then (some false) else (F_laws_likeInts_L1 a0_a a1_b (fun i9 => (some true)) n 0))
set_option maxHeartbeats 40000000 in
theorem W_laws_likeInts {n : Nat} {a0_a : List Int} {a1_b : List Int} {r : Bool} {w : World} {v1 : Value} {v3 : Value} (hF : F_laws_likeInts n a0_a a1_b = some r) (ha2 : slRep (cInt .i64) w (Iv 0 w.heap.size) a0_a v1) (ha4 : slRep (cInt .i64) w (Iv 0 w.heap.size) a1_b v3) :
    Calls Try.prog 27 [v1, v3].toArray w (Ret fun u w2 => u = .bool r ∧ Ext w w2) := by
  refine calls_of Try.func27 rfl Try.ntmps27 ?_
  have he0 : Ext w w := Ext.refl w
  unfold F_laws_likeInts at hF
  refine WC.seq ?_
  refine WC.region ?_
  refine TL.yld rfl rfl (yld_assign rfl rfl) ?_
  refine TL.done ?_
  refine NX.seq ?_
  refine WC.seq ?_
  refine WC.seq ?_
  refine WC.region ?_
  refine TL.yld rfl rfl (yld_move rfl rfl) ?_
  refine TL.yld rfl rfl (ye_len (c := (cInt .i64)) rfl Try.underlying45 rfl (slRep.old ha2 he0 (Nat.le_refl _))) ?_
  refine TL.yld rfl rfl (yld_move rfl rfl) ?_
  refine TL.yld rfl rfl (ye_len (c := (cInt .i64)) rfl Try.underlying45 rfl (slRep.old ha4 he0 (Nat.le_refl _))) ?_
  refine TL.yld rfl rfl (yld_neq rfl rfl rfl) ?_
  refine TL.done ?_
  refine NX.seq ?_
  refine WC.cond rfl ?_ ?_
  · intro hc5
    replace hF := bif_t hc5 hF
    refine WC.seq ?_
    refine WC.region ?_
    refine TL.yld rfl rfl (yld_assign rfl rfl) ?_
    refine TL.done ?_
    refine NX.seq ?_
    refine WC.ret' ?_
    refine NX.then_r ?_
    obtain rfl := Option.some.inj hF
    exact NX.end (rs := [.tmp 4]) (vs := [.bool false]) rfl ⟨rfl, trivial⟩ ⟨_, rfl, rfl, he0⟩
  · intro hc6
    replace hF := bif_f hc6 hF
    refine WC.skip' ?_
    refine NX.seq ?_
    refine WC.seq ?_
    refine WC.seq ?_
    refine WC.region ?_
    refine TL.yld rfl rfl (yld_assign rfl rfl) ?_
    refine TL.done ?_
    refine NX.seq ?_
    refine WC.block ?_
    refine WC.loop (fun m10 a wl => ∃ (i9 : Int), Kn 26 [(0, v1), (1, v3), (5, .int .i64 i9)] a ∧ Ext w wl ∧ w.heap.size ≤ wl.heap.size ∧ F_laws_likeInts_L1 a0_a a1_b (fun i9 => (some true)) m10 i9 = some r) n ?_ ?_
    · intro a hK; exact ⟨0, hK.weaken ⟨rfl, rfl, rfl, trivial⟩, he0, Nat.le_refl _, hF⟩
    · rintro m10 a w7 ⟨i9, hK, he8, hz11, hF⟩
      revert hK; revert a; refine (?_ : WC _ _ _ _ _ _)
      cases m10 with
      | zero => rw [F_laws_likeInts_L1_z] at hF; cases hF
      | succ m10 =>
        rw [F_laws_likeInts_L1_s] at hF
        refine WC.seq ?_
        refine WC.seq ?_
        refine WC.region ?_
        refine TL.yld rfl rfl (yld_move rfl rfl) ?_
        refine TL.yld rfl rfl (yld_move rfl rfl) ?_
        refine TL.yld rfl rfl (ye_len (c := (cInt .i64)) rfl Try.underlying45 rfl (slRep.old ha2 he8 (Nat.le_refl _))) ?_
        refine TL.yld rfl rfl (yld_lss rfl rfl rfl) ?_
        refine TL.done ?_
        refine NX.seq ?_
        refine WC.cond rfl ?_ ?_
        · intro hc12
          replace hF := bif_t hc12 hF
          refine WC.skip' ?_
          refine NX.seq ?_
          refine WC.seq ?_
          refine WC.block ?_
          refine WC.seq ?_
          refine WC.quiet Try.hm (by kernel_rfl) ?_
          refine QL.yld rfl rfl (Yld.qui (yld_move rfl rfl)) ?_
          refine QL.yld rfl rfl (Yld.qui (yld_move rfl rfl)) ?_
          obtain ⟨x13, hy14, hF⟩ := bsome hF
          refine QL.ye rfl rfl (ye_index (c := (cInt .i64)) rfl Try.underlying45 cn_2 rfl rfl (slRep.old ha2 he8 (Nat.le_refl _)) hy14) ?_
          rintro _ ⟨b15, o16, us17, rfl, hib20, hr18, hcl19⟩
          have hib20 : 0 ≤ b15 ∧ b15 < w.heap.size := ⟨hib20.1, by have := hib20.2; omega⟩
          obtain rfl := hr18
          refine QL.yld rfl rfl (Yld.qui (yld_load1 0 rfl ag_2 rfl hcl19 rfl rfl)) ?_
          refine QL.yld rfl rfl (Yld.qui (yld_move rfl rfl)) ?_
          refine QL.yld rfl rfl (Yld.qui (yld_move rfl rfl)) ?_
          obtain ⟨x21, hy22, hF⟩ := bsome hF
          refine QL.ye rfl rfl (ye_index (c := (cInt .i64)) rfl Try.underlying45 cn_2 rfl rfl (slRep.old ha4 he8 (Nat.le_refl _)) hy22) ?_
          rintro _ ⟨b23, o24, us25, rfl, hib28, hr26, hcl27⟩
          have hib28 : 0 ≤ b23 ∧ b23 < w.heap.size := ⟨hib28.1, by have := hib28.2; omega⟩
          obtain rfl := hr26
          refine QL.yld rfl rfl (Yld.qui (yld_load1 0 rfl ag_2 rfl hcl27 rfl rfl)) ?_
          refine QL.yld rfl rfl (Yld.qui (yld_neq rfl rfl rfl)) ?_
          refine QL.done fun w29 hx30 => ?_
          have he31 : Ext w w29 := Ext.trans he8 hx30
          have hz32 := (hx30).size
          refine NX.seq ?_
          refine WC.cond rfl ?_ ?_
          · intro hc33
            replace hF := bif_t hc33 hF
            refine WC.seq ?_
            refine WC.region ?_
            refine TL.yld rfl rfl (yld_assign rfl rfl) ?_
            refine TL.done ?_
            refine NX.seq ?_
            refine WC.ret' ?_
            refine NX.blk_r ?_
            refine NX.then_r ?_
            refine NX.then_r ?_
            refine NX.blk_r ?_
            refine NX.then_r ?_
            obtain rfl := Option.some.inj hF
            exact NX.end (rs := [.tmp 4]) (vs := [.bool false]) rfl ⟨rfl, trivial⟩ ⟨_, rfl, rfl, he31⟩
          · intro hc34
            replace hF := bif_f hc34 hF
            refine WC.skip' ?_
            refine NX.blk_n ?_
            refine NX.seq ?_
            refine WC.region ?_
            refine TL.yld rfl rfl (yld_move rfl rfl) ?_
            refine TL.yld rfl rfl (yld_add rfl rfl rfl) ?_
            refine TL.yld rfl rfl (yld_assign rfl rfl) ?_
            refine TL.done ?_
            refine NX.then_n ?_
            intro a hK; exact ⟨m10, Nat.lt_succ_self m10, (IntKind.wrap IntKind.i64 (i9 + 1)), hK.weaken ⟨rfl, rfl, rfl, trivial⟩, he31, (by omega), hF⟩
        · intro hc35
          replace hF := bif_f hc35 hF
          refine WC.exit' ?_
          refine NX.then_e ?_
          refine NX.then_e ?_
          refine NX.blk_hit ?_
          refine NX.seq ?_
          refine WC.seq ?_
          refine WC.region ?_
          refine TL.yld rfl rfl (yld_assign rfl rfl) ?_
          refine TL.done ?_
          refine NX.seq ?_
          refine WC.ret' ?_
          obtain rfl := Option.some.inj hF
          exact NX.end (rs := [.tmp 4]) (vs := [.bool true]) rfl ⟨rfl, trivial⟩ ⟨_, rfl, rfl, he8⟩

-- loop.example/g00861/impl.length[loop.example/g00861/impl.Latch]
def F_impl_length_impl_Latch (n : Nat) (a0_list : List S_Latch) : Option Int := (some ((a0_list.length : Int)))
set_option maxHeartbeats 40000000 in
theorem W_impl_length_impl_Latch {n : Nat} {a0_list : List S_Latch} {r : Int} {w : World} {v1 : Value} (hF : F_impl_length_impl_Latch n a0_list = some r) (ha2 : slRep C_Latch w (Iv 0 w.heap.size) a0_list v1) :
    Calls Try.prog 60 [v1].toArray w (Ret fun u w2 => u = .int .i64 r ∧ Ext w w2) := by
  refine calls_of Try.func60 rfl Try.ntmps60 ?_
  have he0 : Ext w w := Ext.refl w
  unfold F_impl_length_impl_Latch at hF
  refine WC.seq ?_
  refine WC.region ?_
  refine TL.yld rfl rfl (yld_assign rfl rfl) ?_
  refine TL.done ?_
  refine NX.seq ?_
  refine WC.seq ?_
  refine WC.region ?_
  refine TL.yld rfl rfl (yld_move rfl rfl) ?_
  refine TL.yld rfl rfl (ye_len (c := C_Latch) rfl Try.underlying35 rfl (slRep.old ha2 he0 (Nat.le_refl _))) ?_
  refine TL.yld rfl rfl (yld_assign rfl rfl) ?_
  refine TL.done ?_
  refine NX.seq ?_
  refine WC.ret' ?_
  obtain rfl := Option.some.inj hF
  exact NX.end (rs := [.tmp 2]) (vs := [.int .i64 ((a0_list.length : Int))]) rfl ⟨rfl, trivial⟩ ⟨_, rfl, rfl, he0⟩

-- loop.example/g00861/impl.within
def F_impl_within (n : Nat) (a0_x : Int) (a1_low : Int) (a2_high : Int) : Option Bool := (some (((decide (a0_x ≥ a1_low)) && (decide (a0_x ≤ a2_high)))))
set_option maxHeartbeats 40000000 in
theorem W_impl_within {n : Nat} {a0_x : Int} {a1_low : Int} {a2_high : Int} {r : Bool} {w : World} (hF : F_impl_within n a0_x a1_low a2_high = some r) :
    Calls Try.prog 61 [.int .i64 a0_x, .int .i64 a1_low, .int .i64 a2_high].toArray w (Ret fun u w2 => u = .bool r ∧ Ext w w2) := by
  refine calls_of Try.func61 rfl Try.ntmps61 ?_
  have he0 : Ext w w := Ext.refl w
  unfold F_impl_within at hF
  refine WC.seq ?_
  refine WC.region ?_
  refine TL.yld rfl rfl (yld_assign rfl rfl) ?_
  refine TL.done ?_
  refine NX.seq ?_
  refine WC.seq ?_
  refine WC.region ?_
  refine TL.yld rfl rfl (yld_move rfl rfl) ?_
  refine TL.yld rfl rfl (yld_move rfl rfl) ?_
  refine TL.yld rfl rfl (yld_geq rfl rfl rfl) ?_
  refine TL.yld rfl rfl (yld_move rfl rfl) ?_
  refine TL.cut 4 [(14, .bool (((decide (a0_x ≥ a1_low)) && (decide (a0_x ≤ a2_high)))))] (fun w' => Ext w w') ?_ ?_
  · rcases Bool.eq_false_or_eq_true (decide (a0_x ≥ a1_low)) with hg1 | hg1
    ·
      refine TL.gy (j := 3) (t := 10) rfl rfl rfl hg1 rfl (yld_move rfl rfl) ?_
      refine TL.gy (j := 3) (t := 10) rfl rfl rfl hg1 rfl (yld_move rfl rfl) ?_
      refine TL.gy (j := 3) (t := 10) rfl rfl rfl hg1 rfl (yld_leq rfl rfl rfl) ?_
      refine TL.yld rfl rfl (yld_and_t rfl rfl hg1 rfl) ?_
      exact TL.nil fun a h => ⟨h.weaken ⟨rfl, trivial⟩, Ext.refl _⟩
    ·
      refine TL.gnu (j := 3) (t := 10) rfl rfl rfl hg1 rfl ?_
      refine TL.gnu (j := 3) (t := 10) rfl rfl rfl hg1 rfl ?_
      refine TL.gnu (j := 3) (t := 10) rfl rfl rfl hg1 rfl ?_
      refine TL.yld rfl rfl (yld_and_f (b2 := decide (a0_x ≤ a2_high)) rfl rfl hg1 rfl) ?_
      exact TL.nil fun a h => ⟨h.weaken ⟨rfl, trivial⟩, Ext.refl _⟩
  intro w2 hx3
  have he4 : Ext w w2 := Ext.trans he0 hx3
  have hz5 := (hx3).size
  refine TL.yld rfl rfl (yld_assign rfl rfl) ?_
  refine TL.done ?_
  refine NX.seq ?_
  refine WC.ret' ?_
  obtain rfl := Option.some.inj hF
  exact NX.end (rs := [.tmp 6]) (vs := [.bool (((decide (a0_x ≥ a1_low)) && (decide (a0_x ≤ a2_high))))]) rfl ⟨rfl, trivial⟩ ⟨_, rfl, rfl, he4⟩

-- loop.example/g00861/impl.IsLatchSystem
def F_impl_IsLatchSystem_L2 (n : Nat) (a0_s : S_LatchSystem) (r16 : Int) (k2 : Int → Option Bool) : Nat → Int → Option Bool
  | 0 => fun _ => none
  | m + 1 => fun i24 => (bif decide (i24 < (a0_s.Links.length : Int)) then (Option.bind (getI a0_s.Links i24) fun x27 => (Option.bind (F_impl_within n x27.From 0 (IntKind.wrap IntKind.i64 (r16 - 1))) fun r47 => (Option.bind (bif (!r47) then (some true) else (Option.bind (F_impl_within n x27.To 0 (IntKind.wrap IntKind.i64 (r16 - 1))) fun r53 => (some (!r53)))) fun c53 => (Option.bind (bif c53 then (some true) else (Option.bind (F_impl_within n x27.Delay 0 100000) fun r66 => (some (!r66)))) fun c66 => (Option.bind (bif c66 then (some true) else (Option.bind (F_impl_within n x27.Shift 0 100000) fun r79 => (some (!r79)))) fun c79 => (bif c79 then (some false) else (F_impl_IsLatchSystem_L2 n a0_s r16 k2 m (IntKind.wrap IntKind.i64 (i24 + 1))))))))) else (k2 i24))
theorem F_impl_IsLatchSystem_L2_z (n : Nat) (a0_s : S_LatchSystem) (r16 : Int) (k2 : Int → Option Bool) (i24 : Int) : F_impl_IsLatchSystem_L2 n a0_s r16 k2 0 i24 = none := rfl
theorem F_impl_IsLatchSystem_L2_s (m : Nat) (n : Nat) (a0_s : S_LatchSystem) (r16 : Int) (k2 : Int → Option Bool) (i24 : Int) : F_impl_IsLatchSystem_L2 n a0_s r16 k2 (m + 1) i24 = (bif decide (i24 < (a0_s.Links.length : Int)) then (Option.bind (getI a0_s.Links i24) fun x27 => (Option.bind (F_impl_within n x27.From 0 (IntKind.wrap IntKind.i64 (r16 - 1))) fun r47 => (Option.bind (bif (!r47) then (some true) else (Option.bind (F_impl_within n x27.To 0 (IntKind.wrap IntKind.i64 (r16 - 1))) fun r53 => (some (!r53)))) fun c53 => (Option.bind (bif c53 then (some true) else (Option.bind (F_impl_within n x27.Delay 0 100000) fun r66 => (some (!r66)))) fun c66 => (Option.bind (bif c66 then (some true) else (Option.bind (F_impl_within n x27.Shift 0 100000) fun r79 => (some (!r79)))) fun c79 => (bif c79 then (some false) else (F_impl_IsLatchSystem_L2 n a0_s r16 k2 m (IntKind.wrap IntKind.i64 (i24 + 1))))))))) else (k2 i24)) := rfl

def F_impl_IsLatchSystem_L1 (a0_s : S_LatchSystem) (k0 : Int → Option Bool) : Nat → Int → Option Bool
  | 0 => fun _ => none
  | m + 1 => fun i14 => (bif decide (i14 < (a0_s.Latches.length : Int)) then (Option.bind (getI a0_s.Latches i14) fun x17 => (bif ((((decide (x17.Open < 0)) || (decide (x17.Open > x17.Close)))) || (decide (x17.Close > 100000))) then (some false) else (F_impl_IsLatchSystem_L1 a0_s k0 m (IntKind.wrap IntKind.i64 (i14 + 1))))) else (k0 i14))
theorem F_impl_IsLatchSystem_L1_z (a0_s : S_LatchSystem) (k0 : Int → Option Bool) (i14 : Int) : F_impl_IsLatchSystem_L1 a0_s k0 0 i14 = none := rfl
theorem F_impl_IsLatchSystem_L1_s (m : Nat) (a0_s : S_LatchSystem) (k0 : Int → Option Bool) (i14 : Int) : F_impl_IsLatchSystem_L1 a0_s k0 (m + 1) i14 = (bif decide (i14 < (a0_s.Latches.length : Int)) then (Option.bind (getI a0_s.Latches i14) fun x17 => (bif ((((decide (x17.Open < 0)) || (decide (x17.Open > x17.Close)))) || (decide (x17.Close > 100000))) then (some false) else (F_impl_IsLatchSystem_L1 a0_s k0 m (IntKind.wrap IntKind.i64 (i14 + 1))))) else (k0 i14)) := rfl

def F_impl_IsLatchSystem (n : Nat) (a0_s : S_LatchSystem) : Option Bool := (F_impl_IsLatchSystem_L1 a0_s (fun i14 => (Option.bind (F_impl_length_impl_Latch n a0_s.Latches) fun r16 => (F_impl_IsLatchSystem_L2 n a0_s r16 (fun i24 => (some (((decide (r16 ≤ 12)) && (decide ((a0_s.Links.length : Int) ≤ 60)))))) n 0))) n 0)
set_option maxHeartbeats 40000000 in
theorem W_impl_IsLatchSystem {n : Nat} {a0_s : S_LatchSystem} {r : Bool} {w : World} {v1 : Value} {v3 : Value} (hF : F_impl_IsLatchSystem n a0_s = some r) (ha2 : slRep C_Latch w (Iv 0 w.heap.size) a0_s.Latches v1) (ha4 : slRep C_LatchLink w (Iv 0 w.heap.size) a0_s.Links v3) :
    Calls Try.prog 21 [.agg #[v1, v3]].toArray w (Ret fun u w2 => u = .bool r ∧ Ext w w2) := by
  refine calls_of Try.func21 rfl Try.ntmps21 ?_
  have he0 : Ext w w := Ext.refl w
  unfold F_impl_IsLatchSystem at hF
  refine WC.seq ?_
  refine WC.region ?_
  refine TL.eff rfl rfl (eff_box rfl rfl) ?_
  rintro _ w6 ⟨b5, rfl, hn7⟩
  obtain ⟨hn7e, hn7s, hn7x, hb8⟩ := hn7
  have hb8 : Box w6 b5 [v1, v3] 38 := hb8
  have he10 : Ext w w6 := Ext.trans he0 hn7x
  have hz11 := (hn7x).size
  have hlo9 : w.heap.size ≤ b5 := by rw [hn7e]; exact (he0).size
  refine TL.yld rfl rfl (yld_assign rfl rfl) ?_
  refine TL.done ?_
  refine NX.seq ?_
  refine WC.seq ?_
  refine WC.seq ?_
  refine WC.region ?_
  refine TL.yld rfl rfl (yld_fieldAddr rfl fo_38_0 rfl) ?_
  refine TL.yld rfl rfl (yld_load1 0 rfl ag_35 rfl (Box.cells hb8) rfl rfl) ?_
  refine TL.yld rfl rfl (ye_len (c := C_Latch) rfl Try.underlying35 rfl (slRep.old ha2 he10 (Nat.le_refl _))) ?_
  refine TL.yld rfl rfl (yld_move rfl rfl) ?_
  refine TL.done ?_
  refine NX.seq ?_
  refine WC.block ?_
  refine WC.loop (fun m16 a wl => ∃ (i14 : Int), Kn 76 [(1, .pointer (some ⟨b5, 0, none⟩)), (9, v1), (10, .int .i64 ((a0_s.Latches.length : Int))), (11, .int .i64 i14)] a ∧ Ext w wl ∧ w6.heap.size ≤ wl.heap.size ∧ Box wl b5 [v1, v3] 38 ∧ F_impl_IsLatchSystem_L1 a0_s (fun i14 => (Option.bind (F_impl_length_impl_Latch n a0_s.Latches) fun r16 => (F_impl_IsLatchSystem_L2 n a0_s r16 (fun i24 => (some (((decide (r16 ≤ 12)) && (decide ((a0_s.Links.length : Int) ≤ 60)))))) n 0))) m16 i14 = some r) n ?_ ?_
  · intro a hK; exact ⟨0, hK.weaken ⟨rfl, rfl, rfl, rfl, trivial⟩, he10, Nat.le_refl _, hb8, hF⟩
  · rintro m16 a w12 ⟨i14, hK, he13, hz17, hb15, hF⟩
    revert hK; revert a; refine (?_ : WC _ _ _ _ _ _)
    cases m16 with
    | zero => rw [F_impl_IsLatchSystem_L1_z] at hF; cases hF
    | succ m16 =>
      rw [F_impl_IsLatchSystem_L1_s] at hF
      refine WC.seq ?_
      refine WC.region ?_
      refine TL.yld rfl rfl (yld_lss rfl rfl rfl) ?_
      refine TL.done ?_
      refine NX.seq ?_
      refine WC.seq ?_
      refine WC.cond rfl ?_ ?_
      · intro hc18
        replace hF := bif_t hc18 hF
        refine WC.skip' ?_
        refine NX.seq ?_
        refine WC.seq ?_
        refine WC.block ?_
        refine WC.seq ?_
        refine WC.region ?_
        obtain ⟨x19, hy20, hF⟩ := bsome hF
        refine TL.ye rfl rfl (ye_index (c := C_Latch) rfl Try.underlying35 cn_50 rfl rfl (slRep.old ha2 he13 (Nat.le_refl _)) hy20) ?_
        rintro _ ⟨b21, o22, us23, rfl, hib26, hr24, hcl25⟩
        have hib26 : 0 ≤ b21 ∧ b21 < w.heap.size := ⟨hib26.1, by have := hib26.2; omega⟩
        obtain rfl := C_Latch_open hr24
        refine TL.yld rfl rfl (yld_loadN (us := [.int .i64 x19.Open, .int .i64 x19.Close]) rfl ag_50 rfl hcl25 cn_50) ?_
        refine TL.eff rfl rfl (eff_alloc rfl zn_50) ?_
        rintro _ w28 ⟨b27, rfl, hn29⟩
        obtain ⟨hn29e, hn29s, hn29x, hb30⟩ := hn29
        have hb30 : Box w28 b27 [.int .i64 0, .int .i64 0] 50 := hb30
        have he32 : Ext w w28 := Ext.trans he13 hn29x
        have hb15 := Box.ext hb15 hn29x
        have hz33 := (hn29x).size
        have hlo31 : w.heap.size ≤ b27 := by rw [hn29e]; exact (he13).size
        refine TL.eff rfl rfl (eff_store rfl rfl rfl hb30 cn_50 rfl rfl) ?_
        rintro _ w34 ⟨hu35, hb36⟩
        have he37 : Ext w w34 := Below.trans he32 (Upd.below hu35 (by omega))
        have hb15 := Box.upd hb15 hu35 (by omega)
        have hz38 := (hu35).size
        have hb30 : Box w34 b27 [.int .i64 x19.Open, .int .i64 x19.Close] 50 := hb36
        refine TL.done ?_
        refine NX.seq ?_
        refine WC.seq ?_
        refine WC.region ?_
        refine TL.yld rfl rfl (yld_fieldAddr rfl fo_50_0 rfl) ?_
        refine TL.yld rfl rfl (yld_load1 0 rfl ag_2 rfl (Box.cells hb30) rfl rfl) ?_
        refine TL.yld rfl rfl (yld_lss rfl rfl rfl) ?_
        refine TL.yld rfl rfl (yld_move rfl rfl) ?_
        refine TL.cut 6 [(1, .pointer (some ⟨b5, 0, none⟩)), (4, .pointer (some ⟨b27, 0, none⟩)), (9, v1), (10, .int .i64 ((a0_s.Latches.length : Int))), (11, .int .i64 i14), (24, .bool (((decide (x19.Open < 0)) || (decide (x19.Open > x19.Close)))))] (fun w' => Ext w34 w') ?_ ?_
        · rcases Bool.eq_false_or_eq_true (decide (x19.Open < 0)) with hg39 | hg39
          ·
            refine TL.gnu (j := 3) (t := 18) rfl rfl rfl hg39 rfl ?_
            refine TL.gnu (j := 3) (t := 18) rfl rfl rfl hg39 rfl ?_
            refine TL.gnu (j := 3) (t := 18) rfl rfl rfl hg39 rfl ?_
            refine TL.gnu (j := 3) (t := 18) rfl rfl rfl hg39 rfl ?_
            refine TL.gnu (j := 3) (t := 18) rfl rfl rfl hg39 rfl ?_
            refine TL.yld rfl rfl (yld_or_t (b2 := decide (x19.Open > x19.Close)) rfl rfl hg39 rfl) ?_
            exact TL.nil fun a h => ⟨h.weaken ⟨rfl, rfl, rfl, rfl, rfl, rfl, trivial⟩, Ext.refl _⟩
          ·
            refine TL.gy (j := 3) (t := 18) rfl rfl rfl hg39 rfl (yld_fieldAddr rfl fo_50_0 rfl) ?_
            refine TL.gy (j := 3) (t := 18) rfl rfl rfl hg39 rfl (yld_load1 0 rfl ag_2 rfl (Box.cells hb30) rfl rfl) ?_
            refine TL.gy (j := 3) (t := 18) rfl rfl rfl hg39 rfl (yld_fieldAddr rfl fo_50_1 rfl) ?_
            refine TL.gy (j := 3) (t := 18) rfl rfl rfl hg39 rfl (yld_load1 1 rfl ag_2 rfl (Box.cells hb30) rfl rfl) ?_
            refine TL.gy (j := 3) (t := 18) rfl rfl rfl hg39 rfl (yld_gtr rfl rfl rfl) ?_
            refine TL.yld rfl rfl (yld_or_f rfl rfl hg39 rfl) ?_
            exact TL.nil fun a h => ⟨h.weaken ⟨rfl, rfl, rfl, rfl, rfl, rfl, trivial⟩, Ext.refl _⟩
        intro w40 hx41
        have he42 : Ext w w40 := Ext.trans he37 hx41
        have hb15 := Box.ext hb15 hx41
        have hb30 := Box.ext hb30 hx41
        have hz43 := (hx41).size
        refine TL.yld rfl rfl (yld_move rfl rfl) ?_
        refine TL.cut 4 [(1, .pointer (some ⟨b5, 0, none⟩)), (9, v1), (10, .int .i64 ((a0_s.Latches.length : Int))), (11, .int .i64 i14), (29, .bool (((((decide (x19.Open < 0)) || (decide (x19.Open > x19.Close)))) || (decide (x19.Close > 100000)))))] (fun w' => Ext w40 w') ?_ ?_
        · rcases Bool.eq_false_or_eq_true (((decide (x19.Open < 0)) || (decide (x19.Open > x19.Close)))) with hg44 | hg44
          ·
            refine TL.gnu (j := 10) (t := 25) rfl rfl rfl hg44 rfl ?_
            refine TL.gnu (j := 10) (t := 25) rfl rfl rfl hg44 rfl ?_
            refine TL.gnu (j := 10) (t := 25) rfl rfl rfl hg44 rfl ?_
            refine TL.yld rfl rfl (yld_or_t (b2 := decide (x19.Close > 100000)) rfl rfl hg44 rfl) ?_
            exact TL.nil fun a h => ⟨h.weaken ⟨rfl, rfl, rfl, rfl, rfl, trivial⟩, Ext.refl _⟩
          ·
            refine TL.gy (j := 10) (t := 25) rfl rfl rfl hg44 rfl (yld_fieldAddr rfl fo_50_1 rfl) ?_
            refine TL.gy (j := 10) (t := 25) rfl rfl rfl hg44 rfl (yld_load1 1 rfl ag_2 rfl (Box.cells hb30) rfl rfl) ?_
            refine TL.gy (j := 10) (t := 25) rfl rfl rfl hg44 rfl (yld_gtr rfl rfl rfl) ?_
            refine TL.yld rfl rfl (yld_or_f rfl rfl hg44 rfl) ?_
            exact TL.nil fun a h => ⟨h.weaken ⟨rfl, rfl, rfl, rfl, rfl, trivial⟩, Ext.refl _⟩
        intro w45 hx46
        have he47 : Ext w w45 := Ext.trans he42 hx46
        have hb15 := Box.ext hb15 hx46
        have hb30 := Box.ext hb30 hx46
        have hz48 := (hx46).size
        refine TL.done ?_
        refine NX.seq ?_
        refine WC.cond rfl ?_ ?_
        · intro hc49
          replace hF := bif_t hc49 hF
          refine WC.seq ?_
          refine WC.region ?_
          refine TL.yld rfl rfl (yld_assign rfl rfl) ?_
          refine TL.done ?_
          refine NX.seq ?_
          refine WC.ret' ?_
          refine NX.blk_r ?_
          refine NX.then_r ?_
          refine NX.then_r ?_
          refine NX.blk_r ?_
          refine NX.then_r ?_
          obtain rfl := Option.some.inj hF
          exact NX.end (rs := [.tmp 2]) (vs := [.bool false]) rfl ⟨rfl, trivial⟩ ⟨_, rfl, rfl, he47⟩
        · intro hc50
          replace hF := bif_f hc50 hF
          refine WC.skip' ?_
          refine NX.blk_n ?_
          refine NX.seq ?_
          refine WC.region ?_
          refine TL.yld rfl rfl (yld_add rfl rfl rfl) ?_
          refine TL.yld rfl rfl (yld_move rfl rfl) ?_
          refine TL.done ?_
          refine NX.then_n ?_
          intro a hK; exact ⟨m16, Nat.lt_succ_self m16, (IntKind.wrap IntKind.i64 (i14 + 1)), hK.weaken ⟨rfl, rfl, rfl, rfl, trivial⟩, he47, (by omega), hb15, hF⟩
      · intro hc51
        replace hF := bif_f hc51 hF
        refine WC.exit' ?_
        refine NX.then_e ?_
        refine NX.then_e ?_
        refine NX.blk_hit ?_
        refine NX.seq ?_
        refine WC.seq ?_
        refine WC.region ?_
        refine TL.yld rfl rfl (yld_fieldAddr rfl fo_38_0 rfl) ?_
        refine TL.yld rfl rfl (yld_load1 0 rfl ag_35 rfl (Box.cells hb15) rfl rfl) ?_
        obtain ⟨r52, hr53, hF⟩ := bsome hF
        refine TL.eff rfl rfl (eff_call rfl gf_60 rfl (W_impl_length_impl_Latch hr53 ((slRep.old ha2 he13 (Nat.le_refl _)).wide (Nat.le_refl _) (he13).size))) ?_
        rintro _ w54 ⟨rfl, hx55⟩
        have he56 : Ext w w54 := Ext.trans he13 hx55
        have hb15 := Box.ext hb15 hx55
        have hz57 := (hx55).size
        refine TL.yld rfl rfl (yld_assign rfl rfl) ?_
        refine TL.done ?_
        refine NX.seq ?_
        refine WC.seq ?_
        refine WC.seq ?_
        refine WC.region ?_
        refine TL.yld rfl rfl (yld_fieldAddr rfl fo_38_1 rfl) ?_
        refine TL.yld rfl rfl (yld_load1 1 rfl ag_36 rfl (Box.cells hb15) rfl rfl) ?_
        refine TL.yld rfl rfl (ye_len (c := C_LatchLink) rfl Try.underlying36 rfl (slRep.old ha4 he56 (Nat.le_refl _))) ?_
        refine TL.yld rfl rfl (yld_move rfl rfl) ?_
        refine TL.done ?_
        refine NX.seq ?_
        refine WC.block ?_
        refine WC.loop (fun m62 a wl => ∃ (i60 : Int), Kn 76 [(1, .pointer (some ⟨b5, 0, none⟩)), (5, .int .i64 r52), (35, v3), (36, .int .i64 ((a0_s.Links.length : Int))), (37, .int .i64 i60)] a ∧ Ext w wl ∧ w54.heap.size ≤ wl.heap.size ∧ Box wl b5 [v1, v3] 38 ∧ F_impl_IsLatchSystem_L2 n a0_s r52 (fun i60 => (some (((decide (r52 ≤ 12)) && (decide ((a0_s.Links.length : Int) ≤ 60)))))) m62 i60 = some r) n ?_ ?_
        · intro a hK; exact ⟨0, hK.weaken ⟨rfl, rfl, rfl, rfl, rfl, trivial⟩, he56, Nat.le_refl _, hb15, hF⟩
        · rintro m62 a w58 ⟨i60, hK, he59, hz63, hb61, hF⟩
          revert hK; revert a; refine (?_ : WC _ _ _ _ _ _)
          cases m62 with
          | zero => rw [F_impl_IsLatchSystem_L2_z] at hF; cases hF
          | succ m62 =>
            rw [F_impl_IsLatchSystem_L2_s] at hF
            refine WC.seq ?_
            refine WC.region ?_
            refine TL.yld rfl rfl (yld_lss rfl rfl rfl) ?_
            refine TL.done ?_
            refine NX.seq ?_
            refine WC.seq ?_
            refine WC.cond rfl ?_ ?_
            · intro hc64
              replace hF := bif_t hc64 hF
              refine WC.skip' ?_
              refine NX.seq ?_
              refine WC.seq ?_
              refine WC.block ?_
              refine WC.seq ?_
              refine WC.region ?_
              obtain ⟨x65, hy66, hF⟩ := bsome hF
              refine TL.ye rfl rfl (ye_index (c := C_LatchLink) rfl Try.underlying36 cn_77 rfl rfl (slRep.old ha4 he59 (Nat.le_refl _)) hy66) ?_
              rintro _ ⟨b67, o68, us69, rfl, hib72, hr70, hcl71⟩
              have hib72 : 0 ≤ b67 ∧ b67 < w.heap.size := ⟨hib72.1, by have := hib72.2; omega⟩
              obtain rfl := C_LatchLink_open hr70
              refine TL.yld rfl rfl (yld_loadN (us := [.int .i64 x65.From, .int .i64 x65.To, .int .i64 x65.Delay, .int .i64 x65.Shift]) rfl ag_77 rfl hcl71 cn_77) ?_
              refine TL.eff rfl rfl (eff_alloc rfl zn_77) ?_
              rintro _ w74 ⟨b73, rfl, hn75⟩
              obtain ⟨hn75e, hn75s, hn75x, hb76⟩ := hn75
              have hb76 : Box w74 b73 [.int .i64 0, .int .i64 0, .int .i64 0, .int .i64 0] 77 := hb76
              have he78 : Ext w w74 := Ext.trans he59 hn75x
              have hb61 := Box.ext hb61 hn75x
              have hz79 := (hn75x).size
              have hlo77 : w.heap.size ≤ b73 := by rw [hn75e]; exact (he59).size
              refine TL.eff rfl rfl (eff_store rfl rfl rfl hb76 cn_77 rfl rfl) ?_
              rintro _ w80 ⟨hu81, hb82⟩
              have he83 : Ext w w80 := Below.trans he78 (Upd.below hu81 (by omega))
              have hb61 := Box.upd hb61 hu81 (by omega)
              have hz84 := (hu81).size
              have hb76 : Box w80 b73 [.int .i64 x65.From, .int .i64 x65.To, .int .i64 x65.Delay, .int .i64 x65.Shift] 77 := hb82
              refine TL.done ?_
              refine NX.seq ?_
              refine WC.seq ?_
              refine WC.region ?_
              refine TL.yld rfl rfl (yld_fieldAddr rfl fo_77_0 rfl) ?_
              refine TL.yld rfl rfl (yld_load1 0 rfl ag_2 rfl (Box.cells hb76) rfl rfl) ?_
              refine TL.yld rfl rfl (yld_move rfl rfl) ?_
              refine TL.yld rfl rfl (yld_sub rfl rfl rfl) ?_
              obtain ⟨r85, hr86, hF⟩ := bsome hF
              refine TL.eff rfl rfl (eff_call rfl gf_61 rfl (W_impl_within hr86)) ?_
              rintro _ w87 ⟨rfl, hx88⟩
              have he89 : Ext w w87 := Ext.trans he83 hx88
              have hb61 := Box.ext hb61 hx88
              have hb76 := Box.ext hb76 hx88
              have hz90 := (hx88).size
              refine TL.yld rfl rfl (yld_not rfl rfl) ?_
              refine TL.yld rfl rfl (yld_move rfl rfl) ?_
              obtain ⟨c91, hb92, hF⟩ := bsome hF
              refine TL.cut 7 [(1, .pointer (some ⟨b5, 0, none⟩)), (5, .int .i64 r52), (7, .pointer (some ⟨b73, 0, none⟩)), (35, v3), (36, .int .i64 ((a0_s.Links.length : Int))), (37, .int .i64 i60), (54, .bool c91)] (fun w' => Ext w87 w') ?_ ?_
              · rcases Bool.eq_false_or_eq_true (!r85) with hg93 | hg93
                ·
                  rw [hg93] at hb92; simp only [cond_true, cond_false] at hb92
                  refine TL.gnu (j := 6) (t := 47) rfl rfl rfl hg93 rfl ?_
                  refine TL.gnu (j := 6) (t := 47) rfl rfl rfl hg93 rfl ?_
                  refine TL.gnu (j := 6) (t := 47) rfl rfl rfl hg93 rfl ?_
                  refine TL.gnu (j := 6) (t := 47) rfl rfl rfl hg93 rfl ?_
                  refine TL.gnu (j := 6) (t := 47) rfl rfl rfl hg93 rfl ?_
                  refine TL.gnu (j := 6) (t := 47) rfl rfl rfl hg93 rfl ?_
                  obtain rfl := Option.some.inj hb92
                  refine TL.yld rfl rfl (yld_pick_t rfl rfl hg93 rfl) ?_
                  exact TL.nil fun a h => ⟨h.weaken ⟨rfl, rfl, rfl, rfl, rfl, rfl, rfl, trivial⟩, Ext.refl _⟩
                ·
                  rw [hg93] at hb92; simp only [cond_true, cond_false] at hb92
                  replace hF := hb92
                  refine TL.gy (j := 6) (t := 47) rfl rfl rfl hg93 rfl (yld_fieldAddr rfl fo_77_1 rfl) ?_
                  refine TL.gy (j := 6) (t := 47) rfl rfl rfl hg93 rfl (yld_load1 1 rfl ag_2 rfl (Box.cells hb76) rfl rfl) ?_
                  refine TL.gy (j := 6) (t := 47) rfl rfl rfl hg93 rfl (yld_move rfl rfl) ?_
                  refine TL.gy (j := 6) (t := 47) rfl rfl rfl hg93 rfl (yld_sub rfl rfl rfl) ?_
                  obtain ⟨r94, hr95, hF⟩ := bsome hF
                  refine TL.ge (j := 6) (t := 47) rfl rfl rfl hg93 rfl (eff_call rfl gf_61 rfl (W_impl_within hr95)) ?_
                  rintro _ w96 ⟨rfl, hx97⟩
                  have he98 : Ext w w96 := Ext.trans he89 hx97
                  have hb61 := Box.ext hb61 hx97
                  have hb76 := Box.ext hb76 hx97
                  have hz99 := (hx97).size
                  refine TL.gy (j := 6) (t := 47) rfl rfl rfl hg93 rfl (yld_not rfl rfl) ?_
                  obtain rfl := Option.some.inj hF
                  refine TL.yld rfl rfl (yld_pick_f rfl rfl hg93 rfl) ?_
                  exact TL.nil fun a h => ⟨h.weaken ⟨rfl, rfl, rfl, rfl, rfl, rfl, rfl, trivial⟩, hx97⟩
              intro w100 hx101
              have he102 : Ext w w100 := Ext.trans he89 hx101
              have hb61 := Box.ext hb61 hx101
              have hb76 := Box.ext hb76 hx101
              have hz103 := (hx101).size
              refine TL.yld rfl rfl (yld_move rfl rfl) ?_
              obtain ⟨c104, hb105, hF⟩ := bsome hF
              refine TL.cut 5 [(1, .pointer (some ⟨b5, 0, none⟩)), (5, .int .i64 r52), (7, .pointer (some ⟨b73, 0, none⟩)), (35, v3), (36, .int .i64 ((a0_s.Links.length : Int))), (37, .int .i64 i60), (60, .bool c104)] (fun w' => Ext w100 w') ?_ ?_
              · rcases Bool.eq_false_or_eq_true c91 with hg106 | hg106
                ·
                  rw [hg106] at hb105; simp only [cond_true, cond_false] at hb105
                  refine TL.gnu (j := 14) (t := 55) rfl rfl rfl hg106 rfl ?_
                  refine TL.gnu (j := 14) (t := 55) rfl rfl rfl hg106 rfl ?_
                  refine TL.gnu (j := 14) (t := 55) rfl rfl rfl hg106 rfl ?_
                  refine TL.gnu (j := 14) (t := 55) rfl rfl rfl hg106 rfl ?_
                  obtain rfl := Option.some.inj hb105
                  refine TL.yld rfl rfl (yld_pick_t rfl rfl hg106 rfl) ?_
                  exact TL.nil fun a h => ⟨h.weaken ⟨rfl, rfl, rfl, rfl, rfl, rfl, rfl, trivial⟩, Ext.refl _⟩
                ·
                  rw [hg106] at hb105; simp only [cond_true, cond_false] at hb105
                  replace hF := hb105
                  refine TL.gy (j := 14) (t := 55) rfl rfl rfl hg106 rfl (yld_fieldAddr rfl fo_77_2 rfl) ?_
                  refine TL.gy (j := 14) (t := 55) rfl rfl rfl hg106 rfl (yld_load1 2 rfl ag_2 rfl (Box.cells hb76) rfl rfl) ?_
                  obtain ⟨r107, hr108, hF⟩ := bsome hF
                  refine TL.ge (j := 14) (t := 55) rfl rfl rfl hg106 rfl (eff_call rfl gf_61 rfl (W_impl_within hr108)) ?_
                  rintro _ w109 ⟨rfl, hx110⟩
                  have he111 : Ext w w109 := Ext.trans he102 hx110
                  have hb61 := Box.ext hb61 hx110
                  have hb76 := Box.ext hb76 hx110
                  have hz112 := (hx110).size
                  refine TL.gy (j := 14) (t := 55) rfl rfl rfl hg106 rfl (yld_not rfl rfl) ?_
                  obtain rfl := Option.some.inj hF
                  refine TL.yld rfl rfl (yld_pick_f rfl rfl hg106 rfl) ?_
                  exact TL.nil fun a h => ⟨h.weaken ⟨rfl, rfl, rfl, rfl, rfl, rfl, rfl, trivial⟩, hx110⟩
              intro w113 hx114
              have he115 : Ext w w113 := Ext.trans he102 hx114
              have hb61 := Box.ext hb61 hx114
              have hb76 := Box.ext hb76 hx114
              have hz116 := (hx114).size
              refine TL.yld rfl rfl (yld_move rfl rfl) ?_
              obtain ⟨c117, hb118, hF⟩ := bsome hF
              refine TL.cut 5 [(1, .pointer (some ⟨b5, 0, none⟩)), (5, .int .i64 r52), (35, v3), (36, .int .i64 ((a0_s.Links.length : Int))), (37, .int .i64 i60), (66, .bool c117)] (fun w' => Ext w113 w') ?_ ?_
              · rcases Bool.eq_false_or_eq_true c104 with hg119 | hg119
                ·
                  rw [hg119] at hb118; simp only [cond_true, cond_false] at hb118
                  refine TL.gnu (j := 20) (t := 61) rfl rfl rfl hg119 rfl ?_
                  refine TL.gnu (j := 20) (t := 61) rfl rfl rfl hg119 rfl ?_
                  refine TL.gnu (j := 20) (t := 61) rfl rfl rfl hg119 rfl ?_
                  refine TL.gnu (j := 20) (t := 61) rfl rfl rfl hg119 rfl ?_
                  obtain rfl := Option.some.inj hb118
                  refine TL.yld rfl rfl (yld_pick_t rfl rfl hg119 rfl) ?_
                  exact TL.nil fun a h => ⟨h.weaken ⟨rfl, rfl, rfl, rfl, rfl, rfl, trivial⟩, Ext.refl _⟩
                ·
                  rw [hg119] at hb118; simp only [cond_true, cond_false] at hb118
                  replace hF := hb118
                  refine TL.gy (j := 20) (t := 61) rfl rfl rfl hg119 rfl (yld_fieldAddr rfl fo_77_3 rfl) ?_
                  refine TL.gy (j := 20) (t := 61) rfl rfl rfl hg119 rfl (yld_load1 3 rfl ag_2 rfl (Box.cells hb76) rfl rfl) ?_
                  obtain ⟨r120, hr121, hF⟩ := bsome hF
                  refine TL.ge (j := 20) (t := 61) rfl rfl rfl hg119 rfl (eff_call rfl gf_61 rfl (W_impl_within hr121)) ?_
                  rintro _ w122 ⟨rfl, hx123⟩
                  have he124 : Ext w w122 := Ext.trans he115 hx123
                  have hb61 := Box.ext hb61 hx123
                  have hb76 := Box.ext hb76 hx123
                  have hz125 := (hx123).size
                  refine TL.gy (j := 20) (t := 61) rfl rfl rfl hg119 rfl (yld_not rfl rfl) ?_
                  obtain rfl := Option.some.inj hF
                  refine TL.yld rfl rfl (yld_pick_f rfl rfl hg119 rfl) ?_
                  exact TL.nil fun a h => ⟨h.weaken ⟨rfl, rfl, rfl, rfl, rfl, rfl, trivial⟩, hx123⟩
              intro w126 hx127
              have he128 : Ext w w126 := Ext.trans he115 hx127
              have hb61 := Box.ext hb61 hx127
              have hb76 := Box.ext hb76 hx127
              have hz129 := (hx127).size
              refine TL.done ?_
              refine NX.seq ?_
              refine WC.cond rfl ?_ ?_
              · intro hc130
                replace hF := bif_t hc130 hF
                refine WC.seq ?_
                refine WC.region ?_
                refine TL.yld rfl rfl (yld_assign rfl rfl) ?_
                refine TL.done ?_
                refine NX.seq ?_
                refine WC.ret' ?_
                refine NX.blk_r ?_
                refine NX.then_r ?_
                refine NX.then_r ?_
                refine NX.blk_r ?_
                refine NX.then_r ?_
                obtain rfl := Option.some.inj hF
                exact NX.end (rs := [.tmp 2]) (vs := [.bool false]) rfl ⟨rfl, trivial⟩ ⟨_, rfl, rfl, he128⟩
              · intro hc131
                replace hF := bif_f hc131 hF
                refine WC.skip' ?_
                refine NX.blk_n ?_
                refine NX.seq ?_
                refine WC.region ?_
                refine TL.yld rfl rfl (yld_add rfl rfl rfl) ?_
                refine TL.yld rfl rfl (yld_move rfl rfl) ?_
                refine TL.done ?_
                refine NX.then_n ?_
                intro a hK; exact ⟨m62, Nat.lt_succ_self m62, (IntKind.wrap IntKind.i64 (i60 + 1)), hK.weaken ⟨rfl, rfl, rfl, rfl, rfl, trivial⟩, he128, (by omega), hb61, hF⟩
            · intro hc132
              replace hF := bif_f hc132 hF
              refine WC.exit' ?_
              refine NX.then_e ?_
              refine NX.then_e ?_
              refine NX.blk_hit ?_
              refine NX.seq ?_
              refine WC.seq ?_
              refine WC.region ?_
              refine TL.yld rfl rfl (yld_move rfl rfl) ?_
              refine TL.yld rfl rfl (yld_leq rfl rfl rfl) ?_
              refine TL.yld rfl rfl (yld_move rfl rfl) ?_
              refine TL.cut 5 [(75, .bool (((decide (r52 ≤ 12)) && (decide ((a0_s.Links.length : Int) ≤ 60)))))] (fun w' => Ext w58 w') ?_ ?_
              · rcases Bool.eq_false_or_eq_true (decide (r52 ≤ 12)) with hg133 | hg133
                ·
                  refine TL.gy (j := 2) (t := 70) rfl rfl rfl hg133 rfl (yld_fieldAddr rfl fo_38_1 rfl) ?_
                  refine TL.gy (j := 2) (t := 70) rfl rfl rfl hg133 rfl (yld_load1 1 rfl ag_36 rfl (Box.cells hb61) rfl rfl) ?_
                  refine TL.gy (j := 2) (t := 70) rfl rfl rfl hg133 rfl (ye_len (c := C_LatchLink) rfl Try.underlying36 rfl (slRep.old ha4 he59 (Nat.le_refl _))) ?_
                  refine TL.gy (j := 2) (t := 70) rfl rfl rfl hg133 rfl (yld_leq rfl rfl rfl) ?_
                  refine TL.yld rfl rfl (yld_and_t rfl rfl hg133 rfl) ?_
                  exact TL.nil fun a h => ⟨h.weaken ⟨rfl, trivial⟩, Ext.refl _⟩
                ·
                  refine TL.gnu (j := 2) (t := 70) rfl rfl rfl hg133 rfl ?_
                  refine TL.gnu (j := 2) (t := 70) rfl rfl rfl hg133 rfl ?_
                  refine TL.gnu (j := 2) (t := 70) rfl rfl rfl hg133 rfl ?_
                  refine TL.gnu (j := 2) (t := 70) rfl rfl rfl hg133 rfl ?_
                  refine TL.yld rfl rfl (yld_and_f (b2 := decide ((a0_s.Links.length : Int) ≤ 60)) rfl rfl hg133 rfl) ?_
                  exact TL.nil fun a h => ⟨h.weaken ⟨rfl, trivial⟩, Ext.refl _⟩
              intro w134 hx135
              have he136 : Ext w w134 := Ext.trans he59 hx135
              have hb61 := Box.ext hb61 hx135
              have hz137 := (hx135).size
              refine TL.yld rfl rfl (yld_assign rfl rfl) ?_
              refine TL.done ?_
              refine NX.seq ?_
              refine WC.ret' ?_
              obtain rfl := Option.some.inj hF
              exact NX.end (rs := [.tmp 2]) (vs := [.bool (((decide (r52 ≤ 12)) && (decide ((a0_s.Links.length : Int) ≤ 60))))]) rfl ⟨rfl, trivial⟩ ⟨_, rfl, rfl, he136⟩

-- (loop.example/g00861/impl.LatchSystem).arrivals
def F_impl_LatchSystem_arrivals_L1 (a0_s : S_LatchSystem) (a1_times : List Int) (k0 : Int → (List Int) → (List Bool) → Option ((List Int) × (List Bool))) : Nat → Int → (List Int) → (List Bool) → Option ((List Int) × (List Bool))
  | 0 => fun _ _ _ => none
  | m + 1 => fun i119 l120 l122 => (bif decide (i119 < (a0_s.Links.length : Int)) then (Option.bind (getI a0_s.Links i119) fun x125 => (Option.bind (getI a1_times x125.From) fun x145 => (Option.bind (getI l122 x125.To) fun x157 => (Option.bind (bif (!x157) then (some true) else (Option.bind (getI l120 x125.To) fun x164 => (some (decide (IntKind.wrap IntKind.i64 ((IntKind.wrap IntKind.i64 (x145 + x125.Delay)) - x125.Shift) > x164))))) fun c164 => (bif c164 then (Option.bind (getI l120 x125.To) fun x179 => (Option.bind (getI l122 x125.To) fun x191 => (F_impl_LatchSystem_arrivals_L1 a0_s a1_times k0 m (IntKind.wrap IntKind.i64 (i119 + 1)) ((l120.set (x125.To).toNat (IntKind.wrap IntKind.i64 ((IntKind.wrap IntKind.i64 (x145 + x125.Delay)) - x125.Shift)))) ((l122.set (x125.To).toNat true))))) else (F_impl_LatchSystem_arrivals_L1 a0_s a1_times k0 m (IntKind.wrap IntKind.i64 (i119 + 1)) l120 l122)))))) else (k0 i119 l120 l122))
theorem F_impl_LatchSystem_arrivals_L1_z (a0_s : S_LatchSystem) (a1_times : List Int) (k0 : Int → (List Int) → (List Bool) → Option ((List Int) × (List Bool))) (i119 : Int) (l120 : List Int) (l122 : List Bool) : F_impl_LatchSystem_arrivals_L1 a0_s a1_times k0 0 i119 l120 l122 = none := rfl
theorem F_impl_LatchSystem_arrivals_L1_s (m : Nat) (a0_s : S_LatchSystem) (a1_times : List Int) (k0 : Int → (List Int) → (List Bool) → Option ((List Int) × (List Bool))) (i119 : Int) (l120 : List Int) (l122 : List Bool) : F_impl_LatchSystem_arrivals_L1 a0_s a1_times k0 (m + 1) i119 l120 l122 = (bif decide (i119 < (a0_s.Links.length : Int)) then (Option.bind (getI a0_s.Links i119) fun x125 => (Option.bind (getI a1_times x125.From) fun x145 => (Option.bind (getI l122 x125.To) fun x157 => (Option.bind (bif (!x157) then (some true) else (Option.bind (getI l120 x125.To) fun x164 => (some (decide (IntKind.wrap IntKind.i64 ((IntKind.wrap IntKind.i64 (x145 + x125.Delay)) - x125.Shift) > x164))))) fun c164 => (bif c164 then (Option.bind (getI l120 x125.To) fun x179 => (Option.bind (getI l122 x125.To) fun x191 => (F_impl_LatchSystem_arrivals_L1 a0_s a1_times k0 m (IntKind.wrap IntKind.i64 (i119 + 1)) ((l120.set (x125.To).toNat (IntKind.wrap IntKind.i64 ((IntKind.wrap IntKind.i64 (x145 + x125.Delay)) - x125.Shift)))) ((l122.set (x125.To).toNat true))))) else (F_impl_LatchSystem_arrivals_L1 a0_s a1_times k0 m (IntKind.wrap IntKind.i64 (i119 + 1)) l120 l122)))))) else (k0 i119 l120 l122)) := rfl

def F_impl_LatchSystem_arrivals (n : Nat) (a0_s : S_LatchSystem) (a1_times : List Int) : Option ((List Int) × (List Bool)) := (Option.bind (mkN ((a1_times.length : Int)) 8) fun n14 => (Option.bind (mkN ((a1_times.length : Int)) 1) fun n29 => (F_impl_LatchSystem_arrivals_L1 a0_s a1_times (fun i119 l120 l122 => (some (l120, l122))) n 0 (List.replicate n14 0) (List.replicate n29 false))))
set_option maxHeartbeats 40000000 in
theorem W_impl_LatchSystem_arrivals {n : Nat} {a0_s : S_LatchSystem} {a1_times : List Int} {r : (List Int) × (List Bool)} {w : World} {v1 : Value} {v3 : Value} {v5 : Value} (hF : F_impl_LatchSystem_arrivals n a0_s a1_times = some r) (ha2 : slRep C_Latch w (Iv 0 w.heap.size) a0_s.Latches v1) (ha4 : slRep C_LatchLink w (Iv 0 w.heap.size) a0_s.Links v3) (ha6 : slRep (cInt .i64) w (Iv 0 w.heap.size) a1_times v5) :
    Calls Try.prog 78 [.agg #[v1, v3], v5].toArray w (Ret fun u w2 => ∃ v0_0 v1_0, u = .tuple #[v0_0, v1_0] ∧ ownR (cInt .i64) w2 w.heap.size (Iv 0 0) 2 r.1 v0_0 ∧ ownR cBool w2 w.heap.size (Iv 0 0) 4 r.2 v1_0 ∧ (∀ g q, v1_0.ownBlock = some g → v0_0.ownBlock = some q → g ≠ q) ∧ Ext w w2) := by
  refine calls_of Try.func78 rfl Try.ntmps78 ?_
  have he0 : Ext w w := Ext.refl w
  unfold F_impl_LatchSystem_arrivals at hF
  refine WC.seq ?_
  refine WC.region ?_
  refine TL.eff rfl rfl (eff_box rfl rfl) ?_
  rintro _ w8 ⟨b7, rfl, hn9⟩
  obtain ⟨hn9e, hn9s, hn9x, hb10⟩ := hn9
  have hb10 : Box w8 b7 [v1, v3] 38 := hb10
  have he12 : Ext w w8 := Ext.trans he0 hn9x
  have hz13 := (hn9x).size
  have hlo11 : w.heap.size ≤ b7 := by rw [hn9e]; exact (he0).size
  refine TL.yld rfl rfl (yld_assign rfl rfl) ?_
  refine TL.yld rfl rfl (yld_assign rfl rfl) ?_
  refine TL.done ?_
  refine NX.seq ?_
  refine WC.seq ?_
  obtain ⟨n14, hk15, hF⟩ := bsome hF
  obtain ⟨n29, hk30, hF⟩ := bsome hF
  refine WC.join (fun a wl => ∃ (v47 : Value) (v50 : Value), Kn 62 [(1, v5), (2, .pointer (some ⟨b7, 0, none⟩)), (6, v47), (7, v50)] a ∧ Ext w wl ∧ w8.heap.size ≤ wl.heap.size ∧ Box wl b7 [v1, v3] 38 ∧ ownR (cInt .i64) wl (w8.heap.size) (Iv 0 0) 2 (List.replicate n14 0) v47 ∧ (∀ q, v47.ownBlock = some q → w8.heap.size ≤ q ∧ q < wl.heap.size) ∧ ownR cBool wl (w8.heap.size) (Iv 0 0) 4 (List.replicate n29 false) v50 ∧ (∀ q, v50.ownBlock = some q → w8.heap.size ≤ q ∧ q < wl.heap.size) ∧ (∀ g, v47.ownBlock = some g → g ≠ b7) ∧ (∀ g, v50.ownBlock = some g → g ≠ b7) ∧ (∀ g q, v50.ownBlock = some g → v47.ownBlock = some q → g ≠ q)) ?_ ?_
  ·
    refine WC.held 7 Try.hm fun w57 hx58 => ?_
    have he59 : Ext w w57 := Ext.trans he12 hx58
    have hb10 := Box.ext hb10 hx58
    have hz60 := (hx58).size
    refine HL.yld 0 (by kernel_rfl) rfl (by kernel_rfl) rfl rfl (yld_move rfl rfl) ?_
    refine HL.yld 1 (by kernel_rfl) rfl (by kernel_rfl) rfl rfl (ye_len (c := (cInt .i64)) rfl Try.underlying45 rfl (slRep.old ha6 he59 (Nat.le_refl _))) ?_
    refine HL.yld 3 (by kernel_rfl) rfl (by kernel_rfl) rfl rfl (yld_move rfl rfl) ?_
    refine HL.yld 4 (by kernel_rfl) rfl (by kernel_rfl) rfl rfl (ye_len (c := (cInt .i64)) rfl Try.underlying45 rfl (slRep.old ha6 he59 (Nat.le_refl _))) ?_
    refine HL.many (js := [2, 5]) (by kernel_rfl) rfl (all_two ?_ ?_)
    ·
      refine HB.eff 2 rfl rfl (by kernel_rfl) rfl rfl (eff_make (c := (cInt .i64)) (z := 0) rfl Try.underlying45 in_2 rfl rfl rfl hk15 rfl rfl (fun _ => rfl)) ?_
      rintro v61 w62 ⟨g63, hv64, hg65, hz66, hx67, hs68⟩
      have hbs69 : Ext w57 w62 := Ext.trans (Ext.refl w57) hx67
      have he70 : Ext w w62 := Ext.trans he59 hx67
      have hb10 := Box.ext hb10 hx67
      have hz71 := (hx67).size
      have hlo72 : w.heap.size ≤ g63 := by rw [hg65]; exact (he59).size
      have hbd73 := bd_of hv64
      clear hv64
      refine ⟨hbs69, ?_⟩
      refine HL.yld 6 (by kernel_rfl) rfl (by kernel_rfl) rfl rfl (yld_assign rfl rfl) ?_
      refine HL.eff 5 rfl rfl (by kernel_rfl) rfl rfl (eff_make (c := cBool) (z := false) rfl Try.underlying95 in_4 rfl rfl rfl hk30 rfl rfl (fun _ => rfl)) ?_
      rintro v75 w76 ⟨g77, hv78, hg79, hz80, hx81, hs82⟩
      have hbs83 : Ext w57 w76 := Ext.trans hbs69 hx81
      have he84 : Ext w w76 := Ext.trans he70 hx81
      have hb10 := Box.ext hb10 hx81
      have hs68 := ownR.ext hs68 hx81
      have hz85 := (hx81).size
      have hlo86 : w.heap.size ≤ g77 := by rw [hg79]; exact (he70).size
      have hbd87 := bd_of hv78
      clear hv78
      refine ⟨hbs83, ?_⟩
      refine HL.tail rfl (by kernel_rfl) rfl ?_
      refine TL.yld rfl rfl (yld_assign rfl rfl) ?_
      refine TL.noPan (l := []) ?_
      exact fun a hK => ⟨rfl, v61, v75, hK.weaken ⟨rfl, rfl, rfl, rfl, trivial⟩, he84, (by omega), hb10, (ownR.base hs68 (by omega)), (fun g hg => by have := hbd73 g hg; omega), (ownR.base hs82 (by omega)), (fun g hg => by have := hbd87 g hg; omega), (fun g hg => by have := hbd73 g hg; omega), (fun g hg => by have := hbd87 g hg; omega), (fun g q hg hq => by have := hbd87 g hg; have := hbd73 q hq; omega)⟩
    ·
      refine HB.eff 5 rfl rfl (by kernel_rfl) rfl rfl (eff_make (c := cBool) (z := false) rfl Try.underlying95 in_4 rfl rfl rfl hk30 rfl rfl (fun _ => rfl)) ?_
      rintro v89 w90 ⟨g91, hv92, hg93, hz94, hx95, hs96⟩
      have hbs97 : Ext w57 w90 := Ext.trans (Ext.refl w57) hx95
      have he98 : Ext w w90 := Ext.trans he59 hx95
      have hb10 := Box.ext hb10 hx95
      have hz99 := (hx95).size
      have hlo100 : w.heap.size ≤ g91 := by rw [hg93]; exact (he59).size
      have hbd101 := bd_of hv92
      clear hv92
      refine ⟨hbs97, ?_⟩
      refine HL.eff 2 rfl rfl (by kernel_rfl) rfl rfl (eff_make (c := (cInt .i64)) (z := 0) rfl Try.underlying45 in_2 rfl rfl rfl hk15 rfl rfl (fun _ => rfl)) ?_
      rintro v103 w104 ⟨g105, hv106, hg107, hz108, hx109, hs110⟩
      have hbs111 : Ext w57 w104 := Ext.trans hbs97 hx109
      have he112 : Ext w w104 := Ext.trans he98 hx109
      have hb10 := Box.ext hb10 hx109
      have hs96 := ownR.ext hs96 hx109
      have hz113 := (hx109).size
      have hlo114 : w.heap.size ≤ g105 := by rw [hg107]; exact (he98).size
      have hbd115 := bd_of hv106
      clear hv106
      refine ⟨hbs111, ?_⟩
      refine HL.yld 6 (by kernel_rfl) rfl (by kernel_rfl) rfl rfl (yld_assign rfl rfl) ?_
      refine HL.tail rfl (by kernel_rfl) rfl ?_
      refine TL.yld rfl rfl (yld_assign rfl rfl) ?_
      refine TL.noPan (l := []) ?_
      exact fun a hK => ⟨rfl, v103, v89, hK.weaken ⟨rfl, rfl, rfl, rfl, trivial⟩, he112, (by omega), hb10, (ownR.base hs110 (by omega)), (fun g hg => by have := hbd115 g hg; omega), (ownR.base hs96 (by omega)), (fun g hg => by have := hbd101 g hg; omega), (fun g hg => by have := hbd115 g hg; omega), (fun g hg => by have := hbd101 g hg; omega), (fun g q hg hq => by have := hbd101 g hg; have := hbd115 q hq; omega)⟩
  ·
    rintro a w44 ⟨v47, v50, hK, he45, hz53, hb46, hs48, hbd49, hs51, hbd52, hp54, hp55, hp56⟩
    revert hK; revert a; refine (?_ : NX _ _ _ _ _)
    refine NX.seq ?_
    refine WC.seq ?_
    refine WC.seq ?_
    refine WC.region ?_
    refine TL.yld rfl rfl (yld_fieldAddr rfl fo_38_1 rfl) ?_
    refine TL.yld rfl rfl (yld_load1 1 rfl ag_36 rfl (Box.cells hb46) rfl rfl) ?_
    refine TL.yld rfl rfl (ye_len (c := C_LatchLink) rfl Try.underlying36 rfl (slRep.old ha4 he45 (Nat.le_refl _))) ?_
    refine TL.yld rfl rfl (yld_move rfl rfl) ?_
    refine TL.done ?_
    refine NX.seq ?_
    refine WC.block ?_
    refine WC.loop (fun m124 a wl => ∃ (i119 : Int) (l120 : List Int) (l122 : List Bool), Kn 62 [(1, v5), (6, v47), (7, v50), (18, v3), (19, .int .i64 ((a0_s.Links.length : Int))), (20, .int .i64 i119)] a ∧ Ext w wl ∧ w44.heap.size ≤ wl.heap.size ∧ ownR (cInt .i64) wl (w8.heap.size) (Iv 0 0) 2 l120 v47 ∧ ownR cBool wl (w8.heap.size) (Iv 0 0) 4 l122 v50 ∧ F_impl_LatchSystem_arrivals_L1 a0_s a1_times (fun i119 l120 l122 => (some (l120, l122))) m124 i119 l120 l122 = some r) n ?_ ?_
    · intro a hK; exact ⟨0, (List.replicate n14 0), (List.replicate n29 false), hK.weaken ⟨rfl, rfl, rfl, rfl, rfl, rfl, trivial⟩, he45, Nat.le_refl _, hs48, hs51, hF⟩
    · rintro m124 a w117 ⟨i119, l120, l122, hK, he118, hz125, hs121, hs123, hF⟩
      revert hK; revert a; refine (?_ : WC _ _ _ _ _ _)
      cases m124 with
      | zero => rw [F_impl_LatchSystem_arrivals_L1_z] at hF; cases hF
      | succ m124 =>
        rw [F_impl_LatchSystem_arrivals_L1_s] at hF
        refine WC.seq ?_
        refine WC.region ?_
        refine TL.yld rfl rfl (yld_lss rfl rfl rfl) ?_
        refine TL.done ?_
        refine NX.seq ?_
        refine WC.seq ?_
        refine WC.cond rfl ?_ ?_
        · intro hc126
          replace hF := bif_t hc126 hF
          refine WC.skip' ?_
          refine NX.seq ?_
          refine WC.seq ?_
          refine WC.block ?_
          refine WC.seq ?_
          refine WC.region ?_
          obtain ⟨x127, hy128, hF⟩ := bsome hF
          refine TL.ye rfl rfl (ye_index (c := C_LatchLink) rfl Try.underlying36 cn_77 rfl rfl (slRep.old ha4 he118 (Nat.le_refl _)) hy128) ?_
          rintro _ ⟨b129, o130, us131, rfl, hib134, hr132, hcl133⟩
          have hib134 : 0 ≤ b129 ∧ b129 < w.heap.size := ⟨hib134.1, by have := hib134.2; omega⟩
          obtain rfl := C_LatchLink_open hr132
          refine TL.yld rfl rfl (yld_loadN (us := [.int .i64 x127.From, .int .i64 x127.To, .int .i64 x127.Delay, .int .i64 x127.Shift]) rfl ag_77 rfl hcl133 cn_77) ?_
          refine TL.eff rfl rfl (eff_alloc rfl zn_77) ?_
          rintro _ w136 ⟨b135, rfl, hn137⟩
          obtain ⟨hn137e, hn137s, hn137x, hb138⟩ := hn137
          have hb138 : Box w136 b135 [.int .i64 0, .int .i64 0, .int .i64 0, .int .i64 0] 77 := hb138
          have he140 : Ext w w136 := Ext.trans he118 hn137x
          have hs121 := ownR.ext hs121 hn137x
          have hs123 := ownR.ext hs123 hn137x
          have hz141 := (hn137x).size
          have hlo139 : w.heap.size ≤ b135 := by rw [hn137e]; exact (he118).size
          refine TL.eff rfl rfl (eff_store rfl rfl rfl hb138 cn_77 rfl rfl) ?_
          rintro _ w142 ⟨hu143, hb144⟩
          have he145 : Ext w w142 := Below.trans he140 (Upd.below hu143 (by omega))
          have hs121 := ownR.upd hs121 hu143 (fun g hg => by have := hbd49 g hg; omega)
          have hs123 := ownR.upd hs123 hu143 (fun g hg => by have := hbd52 g hg; omega)
          have hz146 := (hu143).size
          have hb138 : Box w142 b135 [.int .i64 x127.From, .int .i64 x127.To, .int .i64 x127.Delay, .int .i64 x127.Shift] 77 := hb144
          refine TL.done ?_
          refine NX.seq ?_
          refine WC.seq ?_
          refine WC.quiet Try.hm (by kernel_rfl) ?_
          refine QL.yld rfl rfl (Yld.qui (yld_move rfl rfl)) ?_
          refine QL.yld rfl rfl (Yld.qui (yld_fieldAddr rfl fo_77_0 rfl)) ?_
          refine QL.yld rfl rfl (Yld.qui (yld_load1 0 rfl ag_2 rfl (Box.cells hb138) rfl rfl)) ?_
          obtain ⟨x147, hy148, hF⟩ := bsome hF
          refine QL.ye rfl rfl (ye_index (c := (cInt .i64)) rfl Try.underlying45 cn_2 rfl rfl (slRep.old ha6 he145 (Nat.le_refl _)) hy148) ?_
          rintro _ ⟨b149, o150, us151, rfl, hib154, hr152, hcl153⟩
          have hib154 : 0 ≤ b149 ∧ b149 < w.heap.size := ⟨hib154.1, by have := hib154.2; omega⟩
          obtain rfl := hr152
          refine QL.yld rfl rfl (Yld.qui (yld_load1 0 rfl ag_2 rfl hcl153 rfl rfl)) ?_
          refine QL.yld rfl rfl (Yld.qui (yld_fieldAddr rfl fo_77_2 rfl)) ?_
          refine QL.yld rfl rfl (Yld.qui (yld_load1 2 rfl ag_2 rfl (Box.cells hb138) rfl rfl)) ?_
          refine QL.yld rfl rfl (Yld.qui (yld_add rfl rfl rfl)) ?_
          refine QL.yld rfl rfl (Yld.qui (yld_fieldAddr rfl fo_77_3 rfl)) ?_
          refine QL.yld rfl rfl (Yld.qui (yld_load1 3 rfl ag_2 rfl (Box.cells hb138) rfl rfl)) ?_
          refine QL.yld rfl rfl (Yld.qui (yld_sub rfl rfl rfl)) ?_
          refine QL.yld rfl rfl (Yld.qui (yld_assign rfl rfl)) ?_
          refine QL.done fun w155 hx156 => ?_
          have he157 : Ext w w155 := Ext.trans he145 hx156
          have hb138 := Box.ext hb138 hx156
          have hs121 := ownR.ext hs121 hx156
          have hs123 := ownR.ext hs123 hx156
          have hz158 := (hx156).size
          refine NX.seq ?_
          refine WC.seq ?_
          refine WC.region ?_
          refine TL.yld rfl rfl (yld_move rfl rfl) ?_
          refine TL.yld rfl rfl (yld_fieldAddr rfl fo_77_1 rfl) ?_
          refine TL.yld rfl rfl (yld_load1 1 rfl ag_2 rfl (Box.cells hb138) rfl rfl) ?_
          obtain ⟨x159, hy160, hF⟩ := bsome hF
          refine TL.ye rfl rfl (ye_index_own (c := cBool) rfl Try.underlying95 cn_4 rfl rfl hs123 hy160) ?_
          rintro _ ⟨g161, us163, rfl, hg162, hr164, hcl165⟩
          have hr164r := hr164
          obtain rfl := hr164
          refine TL.yld rfl rfl (yld_load1 0 rfl ag_4 rfl hcl165 rfl rfl) ?_
          refine TL.yld rfl rfl (yld_not rfl rfl) ?_
          refine TL.yld rfl rfl (yld_move rfl rfl) ?_
          obtain ⟨c166, hb167, hF⟩ := bsome hF
          refine TL.cut 8 [(1, v5), (6, v47), (7, v50), (9, .pointer (some ⟨b135, 0, none⟩)), (10, .int .i64 (IntKind.wrap IntKind.i64 ((IntKind.wrap IntKind.i64 (x147 + x127.Delay)) - x127.Shift))), (18, v3), (19, .int .i64 ((a0_s.Links.length : Int))), (20, .int .i64 i119), (49, .bool c166)] (fun w' => Ext w155 w') ?_ ?_
          · rcases Bool.eq_false_or_eq_true (!x159) with hg168 | hg168
            ·
              rw [hg168] at hb167; simp only [cond_true, cond_false] at hb167
              refine TL.gnu (j := 6) (t := 41) rfl rfl rfl hg168 rfl ?_
              refine TL.gnu (j := 6) (t := 41) rfl rfl rfl hg168 rfl ?_
              refine TL.gnu (j := 6) (t := 41) rfl rfl rfl hg168 rfl ?_
              refine TL.gnu (j := 6) (t := 41) rfl rfl rfl hg168 rfl ?_
              refine TL.gnu (j := 6) (t := 41) rfl rfl rfl hg168 rfl ?_
              refine TL.gnu (j := 6) (t := 41) rfl rfl rfl hg168 rfl ?_
              refine TL.gnu (j := 6) (t := 41) rfl rfl rfl hg168 rfl ?_
              obtain rfl := Option.some.inj hb167
              refine TL.yld rfl rfl (yld_pick_t rfl rfl hg168 rfl) ?_
              exact TL.nil fun a h => ⟨h.weaken ⟨rfl, rfl, rfl, rfl, rfl, rfl, rfl, rfl, rfl, trivial⟩, Ext.refl _⟩
            ·
              rw [hg168] at hb167; simp only [cond_true, cond_false] at hb167
              replace hF := hb167
              refine TL.gy (j := 6) (t := 41) rfl rfl rfl hg168 rfl (yld_move rfl rfl) ?_
              refine TL.gy (j := 6) (t := 41) rfl rfl rfl hg168 rfl (yld_move rfl rfl) ?_
              refine TL.gy (j := 6) (t := 41) rfl rfl rfl hg168 rfl (yld_fieldAddr rfl fo_77_1 rfl) ?_
              refine TL.gy (j := 6) (t := 41) rfl rfl rfl hg168 rfl (yld_load1 1 rfl ag_2 rfl (Box.cells hb138) rfl rfl) ?_
              obtain ⟨x169, hy170, hF⟩ := bsome hF
              refine TL.yeg (j := 6) (t := 41) rfl rfl rfl hg168 rfl (ye_index_own (c := (cInt .i64)) rfl Try.underlying45 cn_2 rfl rfl hs121 hy170) ?_
              rintro _ ⟨g171, us173, rfl, hg172, hr174, hcl175⟩
              have hr174r := hr174
              obtain rfl := hr174
              refine TL.gy (j := 6) (t := 41) rfl rfl rfl hg168 rfl (yld_load1 0 rfl ag_2 rfl hcl175 rfl rfl) ?_
              refine TL.gy (j := 6) (t := 41) rfl rfl rfl hg168 rfl (yld_gtr rfl rfl rfl) ?_
              obtain rfl := Option.some.inj hF
              refine TL.yld rfl rfl (yld_pick_f rfl rfl hg168 rfl) ?_
              exact TL.nil fun a h => ⟨h.weaken ⟨rfl, rfl, rfl, rfl, rfl, rfl, rfl, rfl, rfl, trivial⟩, Ext.refl _⟩
          intro w176 hx177
          have he178 : Ext w w176 := Ext.trans he157 hx177
          have hb138 := Box.ext hb138 hx177
          have hs121 := ownR.ext hs121 hx177
          have hs123 := ownR.ext hs123 hx177
          have hz179 := (hx177).size
          refine TL.done ?_
          refine NX.seq ?_
          refine WC.cond rfl ?_ ?_
          · intro hc180
            replace hF := bif_t hc180 hF
            obtain ⟨x181, hy182, hF⟩ := bsome hF
            obtain ⟨x193, hy194, hF⟩ := bsome hF
            refine WC.heldG (p := (pO v47)) 9 Try.hm fun w205 hx206 => ?_
            have he207 : Ext w w205 := Ext.trans he178 hx206
            have hb138 := Box.ext hb138 hx206
            have hs121 := ownR.ext hs121 hx206
            have hs123 := ownR.ext hs123 hx206
            have hz208 := (hx206).size
            refine HLG.yld 0 (by kernel_rfl) rfl (by kernel_rfl) rfl rfl (fun wx hbx => (yld_move rfl rfl)) ?_
            refine HLG.yld 1 (by kernel_rfl) rfl (by kernel_rfl) rfl rfl (fun wx hbx => (yld_fieldAddr rfl fo_77_1 rfl)) ?_
            refine HLG.yld 2 (by kernel_rfl) rfl (by kernel_rfl) rfl rfl (fun wx hbx => (have hb138 := Box.but hb138 hbx (all_pO (fun g hg => by have := hbd49 g hg; omega)); (yld_load1 1 rfl ag_2 rfl (Box.cells hb138) rfl rfl))) ?_
            refine HLG.yld 3 (by kernel_rfl) rfl (by kernel_rfl) rfl rfl (fun wx hbx => (yld_move rfl rfl)) ?_
            refine HLG.yld 4 (by kernel_rfl) rfl (by kernel_rfl) rfl rfl (fun wx hbx => (yld_fieldAddr rfl fo_77_1 rfl)) ?_
            refine HLG.yld 5 (by kernel_rfl) rfl (by kernel_rfl) rfl rfl (fun wx hbx => (have hb138 := Box.but hb138 hbx (all_pO (fun g hg => by have := hbd49 g hg; omega)); (yld_load1 1 rfl ag_2 rfl (Box.cells hb138) rfl rfl))) ?_
            refine HLG.yld 6 (by kernel_rfl) rfl (by kernel_rfl) rfl rfl (fun wx hbx => (yld_move rfl rfl)) ?_
            refine HLG.ya 7 (by kernel_rfl) rfl (by kernel_rfl) rfl rfl (ya_index_own (c := (cInt .i64)) rfl Try.underlying45 cn_2 rfl rfl hs121 hy182) ?_
            rintro _ ⟨g209, us211, rfl, hg210, hr212, hcl213⟩
            have hr212r := hr212
            obtain rfl := hr212
            refine HLG.eff 8 rfl rfl (by kernel_rfl) rfl rfl (eff_store_own (c := (cInt .i64)) (us' := [.int .i64 (IntKind.wrap IntKind.i64 ((IntKind.wrap IntKind.i64 (x147 + x127.Delay)) - x127.Shift))]) (y' := IntKind.wrap IntKind.i64 ((IntKind.wrap IntKind.i64 (x147 + x127.Delay)) - x127.Shift)) 0 _ rfl rfl rfl hs121 hg210 hy182 rfl cn_2 rfl hr212r hcl213 rfl rfl rfl (fun k h => absurd h.2 (Nat.not_lt_zero k))) ?_
            rintro _ w214 ⟨hu215, hs216⟩
            have he217 : Ext w w214 := Below.trans he207 (Upd.below hu215 (by have := hbd49 _ hg210; omega))
            have hb138 := Box.upd hb138 hu215 (by have := hbd49 _ hg210; omega)
            have hs123 := ownR.upd hs123 hu215 (fun q hq => by have := hp56 q _ hq hg210; omega)
            have hz218 := (hu215).size
            have hbs219 : But (pO v47) w205 w214 := (But.upd (But.refl _ w205) hu215 (Or.inl hg210))
            refine ⟨hbs219, ?_⟩
            refine HLG.tail rfl (by kernel_rfl) rfl ?_
            refine TL.ye rfl rfl (ye_index_own (c := cBool) rfl Try.underlying95 cn_4 rfl rfl hs123 hy194) ?_
            rintro _ ⟨g220, us222, rfl, hg221, hr223, hcl224⟩
            have hr223r := hr223
            obtain rfl := hr223
            refine TL.eff rfl rfl (eff_store_own (c := cBool) (us' := [.bool true]) (y' := true) 0 _ rfl rfl rfl hs123 hg221 hy194 rfl cn_4 rfl hr223r hcl224 rfl rfl rfl (fun k h => absurd h.2 (Nat.not_lt_zero k))) ?_
            rintro _ w225 ⟨hu226, hs227⟩
            have he228 : Ext w w225 := Below.trans he217 (Upd.below hu226 (by have := hbd52 _ hg221; omega))
            have hb138 := Box.upd hb138 hu226 (by have := hbd52 _ hg221; omega)
            have hs216 := ownR.upd hs216 hu226 (fun q hq => by have := hp56 _ q hg221 hq; omega)
            have hz229 := (hu226).size
            refine TL.noPan (l := []) ?_
            refine NX.blk_n ?_
            refine NX.seq ?_
            refine WC.region ?_
            refine TL.yld rfl rfl (yld_add rfl rfl rfl) ?_
            refine TL.yld rfl rfl (yld_move rfl rfl) ?_
            refine TL.done ?_
            refine NX.then_n ?_
            intro a hK; exact ⟨m124, Nat.lt_succ_self m124, (IntKind.wrap IntKind.i64 (i119 + 1)), ((l120.set (x127.To).toNat (IntKind.wrap IntKind.i64 ((IntKind.wrap IntKind.i64 (x147 + x127.Delay)) - x127.Shift)))), ((l122.set (x127.To).toNat true)), hK.weaken ⟨rfl, rfl, rfl, rfl, rfl, rfl, trivial⟩, he228, (by omega), hs216, hs227, hF⟩
          · intro hc230
            replace hF := bif_f hc230 hF
            refine WC.skip' ?_
            refine NX.blk_n ?_
            refine NX.seq ?_
            refine WC.region ?_
            refine TL.yld rfl rfl (yld_add rfl rfl rfl) ?_
            refine TL.yld rfl rfl (yld_move rfl rfl) ?_
            refine TL.done ?_
            refine NX.then_n ?_
            intro a hK; exact ⟨m124, Nat.lt_succ_self m124, (IntKind.wrap IntKind.i64 (i119 + 1)), l120, l122, hK.weaken ⟨rfl, rfl, rfl, rfl, rfl, rfl, trivial⟩, he178, (by omega), hs121, hs123, hF⟩
        · intro hc231
          replace hF := bif_f hc231 hF
          refine WC.exit' ?_
          refine NX.then_e ?_
          refine NX.then_e ?_
          refine NX.blk_hit ?_
          refine NX.seq ?_
          refine WC.seq ?_
          refine WC.region ?_
          refine TL.yld rfl rfl (yld_move rfl rfl) ?_
          refine TL.yld rfl rfl (yld_move rfl rfl) ?_
          refine TL.yld rfl rfl (yld_assign rfl rfl) ?_
          refine TL.yld rfl rfl (yld_assign rfl rfl) ?_
          refine TL.done ?_
          refine NX.seq ?_
          refine WC.ret' ?_
          obtain rfl := Option.some.inj hF
          exact NX.end (rs := [.tmp 4, .tmp 5]) (vs := [v47, v50]) rfl ⟨rfl, rfl, trivial⟩ ⟨_, rfl, _, _, rfl, ownR.base hs121 (by omega), ownR.base hs123 (by omega), hp56, he118⟩

-- (loop.example/g00861/impl.LatchSystem).departures
def F_impl_LatchSystem_departures_L3 (l37 : List Int) (r40 : (List Int) × (List Bool)) (k4 : Bool → Int → (List Int) → Option ((List Int) × Bool)) : Nat → Bool → Int → (List Int) → Option ((List Int) × Bool)
  | 0 => fun _ _ _ => none
  | m + 1 => fun q57 i58 l60 => (bif decide (i58 < (l37.length : Int)) then (Option.bind (getI r40.2 i58) fun x65 => (Option.bind (bif x65 then (Option.bind (getI r40.1 i58) fun x72 => (Option.bind (getI l60 i58) fun x79 => (some (decide (x72 > x79))))) else (some false)) fun c72 => (bif c72 then (Option.bind (getI r40.1 i58) fun x94 => (Option.bind (getI l60 i58) fun x101 => (F_impl_LatchSystem_departures_L3 l37 r40 k4 m true (IntKind.wrap IntKind.i64 (i58 + 1)) ((l60.set (i58).toNat x94))))) else (F_impl_LatchSystem_departures_L3 l37 r40 k4 m q57 (IntKind.wrap IntKind.i64 (i58 + 1)) l60)))) else (k4 q57 i58 l60))
theorem F_impl_LatchSystem_departures_L3_z (l37 : List Int) (r40 : (List Int) × (List Bool)) (k4 : Bool → Int → (List Int) → Option ((List Int) × Bool)) (q57 : Bool) (i58 : Int) (l60 : List Int) : F_impl_LatchSystem_departures_L3 l37 r40 k4 0 q57 i58 l60 = none := rfl
theorem F_impl_LatchSystem_departures_L3_s (m : Nat) (l37 : List Int) (r40 : (List Int) × (List Bool)) (k4 : Bool → Int → (List Int) → Option ((List Int) × Bool)) (q57 : Bool) (i58 : Int) (l60 : List Int) : F_impl_LatchSystem_departures_L3 l37 r40 k4 (m + 1) q57 i58 l60 = (bif decide (i58 < (l37.length : Int)) then (Option.bind (getI r40.2 i58) fun x65 => (Option.bind (bif x65 then (Option.bind (getI r40.1 i58) fun x72 => (Option.bind (getI l60 i58) fun x79 => (some (decide (x72 > x79))))) else (some false)) fun c72 => (bif c72 then (Option.bind (getI r40.1 i58) fun x94 => (Option.bind (getI l60 i58) fun x101 => (F_impl_LatchSystem_departures_L3 l37 r40 k4 m true (IntKind.wrap IntKind.i64 (i58 + 1)) ((l60.set (i58).toNat x94))))) else (F_impl_LatchSystem_departures_L3 l37 r40 k4 m q57 (IntKind.wrap IntKind.i64 (i58 + 1)) l60)))) else (k4 q57 i58 l60)) := rfl

def F_impl_LatchSystem_departures_L2 (n : Nat) (a0_s : S_LatchSystem) (l31 : List Int) (k2 : Int → (List Int) → Option ((List Int) × Bool)) : Nat → Int → (List Int) → Option ((List Int) × Bool)
  | 0 => fun _ _ => none
  | m + 1 => fun i35 l37 => (bif decide (i35 < IntKind.wrap IntKind.i64 (((l31.length : Int)) + 1)) then (Option.bind (F_impl_LatchSystem_arrivals n a0_s l37) fun r40 => (F_impl_LatchSystem_departures_L3 l37 r40 (fun q57 i58 l60 => (bif (!q57) then (some (l60, true)) else (F_impl_LatchSystem_departures_L2 n a0_s l31 k2 m (IntKind.wrap IntKind.i64 (i35 + 1)) l60))) n false 0 l37)) else (k2 i35 l37))
theorem F_impl_LatchSystem_departures_L2_z (n : Nat) (a0_s : S_LatchSystem) (l31 : List Int) (k2 : Int → (List Int) → Option ((List Int) × Bool)) (i35 : Int) (l37 : List Int) : F_impl_LatchSystem_departures_L2 n a0_s l31 k2 0 i35 l37 = none := rfl
theorem F_impl_LatchSystem_departures_L2_s (m : Nat) (n : Nat) (a0_s : S_LatchSystem) (l31 : List Int) (k2 : Int → (List Int) → Option ((List Int) × Bool)) (i35 : Int) (l37 : List Int) : F_impl_LatchSystem_departures_L2 n a0_s l31 k2 (m + 1) i35 l37 = (bif decide (i35 < IntKind.wrap IntKind.i64 (((l31.length : Int)) + 1)) then (Option.bind (F_impl_LatchSystem_arrivals n a0_s l37) fun r40 => (F_impl_LatchSystem_departures_L3 l37 r40 (fun q57 i58 l60 => (bif (!q57) then (some (l60, true)) else (F_impl_LatchSystem_departures_L2 n a0_s l31 k2 m (IntKind.wrap IntKind.i64 (i35 + 1)) l60))) n false 0 l37)) else (k2 i35 l37)) := rfl

def F_impl_LatchSystem_departures_L1 (a0_s : S_LatchSystem) (k0 : Int → (List Int) → Option ((List Int) × Bool)) : Nat → Int → (List Int) → Option ((List Int) × Bool)
  | 0 => fun _ _ => none
  | m + 1 => fun i29 l31 => (bif decide (i29 < (a0_s.Latches.length : Int)) then (Option.bind (getI a0_s.Latches i29) fun x34 => (Option.bind (getI l31 i29) fun x54 => (F_impl_LatchSystem_departures_L1 a0_s k0 m (IntKind.wrap IntKind.i64 (i29 + 1)) ((l31.set (i29).toNat x34.Open))))) else (k0 i29 l31))
theorem F_impl_LatchSystem_departures_L1_z (a0_s : S_LatchSystem) (k0 : Int → (List Int) → Option ((List Int) × Bool)) (i29 : Int) (l31 : List Int) : F_impl_LatchSystem_departures_L1 a0_s k0 0 i29 l31 = none := rfl
theorem F_impl_LatchSystem_departures_L1_s (m : Nat) (a0_s : S_LatchSystem) (k0 : Int → (List Int) → Option ((List Int) × Bool)) (i29 : Int) (l31 : List Int) : F_impl_LatchSystem_departures_L1 a0_s k0 (m + 1) i29 l31 = (bif decide (i29 < (a0_s.Latches.length : Int)) then (Option.bind (getI a0_s.Latches i29) fun x34 => (Option.bind (getI l31 i29) fun x54 => (F_impl_LatchSystem_departures_L1 a0_s k0 m (IntKind.wrap IntKind.i64 (i29 + 1)) ((l31.set (i29).toNat x34.Open))))) else (k0 i29 l31)) := rfl

def F_impl_LatchSystem_departures (n : Nat) (a0_s : S_LatchSystem) : Option ((List Int) × Bool) := (Option.bind (mkN ((a0_s.Latches.length : Int)) 8) fun n12 => (F_impl_LatchSystem_departures_L1 a0_s (fun i29 l31 => (F_impl_LatchSystem_departures_L2 n a0_s l31 (fun i35 l37 => (some (([] : List Int), false))) n 0 l31)) n 0 (List.replicate n12 0)))
set_option maxHeartbeats 40000000 in
theorem W_impl_LatchSystem_departures {n : Nat} {a0_s : S_LatchSystem} {r : (List Int) × Bool} {w : World} {v1 : Value} {v3 : Value} (hF : F_impl_LatchSystem_departures n a0_s = some r) (ha2 : slRep C_Latch w (Iv 0 w.heap.size) a0_s.Latches v1) (ha4 : slRep C_LatchLink w (Iv 0 w.heap.size) a0_s.Links v3) :
    Calls Try.prog 94 [.agg #[v1, v3]].toArray w (Ret fun u w2 => ∃ v0_0, u = .tuple #[v0_0, .bool r.2] ∧ ownR (cInt .i64) w2 w.heap.size (Iv 0 0) 2 r.1 v0_0 ∧ Ext w w2) := by
  refine calls_of Try.func94 rfl Try.ntmps94 ?_
  have he0 : Ext w w := Ext.refl w
  unfold F_impl_LatchSystem_departures at hF
  refine WC.seq ?_
  refine WC.region ?_
  refine TL.eff rfl rfl (eff_box rfl rfl) ?_
  rintro _ w6 ⟨b5, rfl, hn7⟩
  obtain ⟨hn7e, hn7s, hn7x, hb8⟩ := hn7
  have hb8 : Box w6 b5 [v1, v3] 38 := hb8
  have he10 : Ext w w6 := Ext.trans he0 hn7x
  have hz11 := (hn7x).size
  have hlo9 : w.heap.size ≤ b5 := by rw [hn7e]; exact (he0).size
  refine TL.yld rfl rfl (yld_assign rfl rfl) ?_
  refine TL.yld rfl rfl (yld_assign rfl rfl) ?_
  refine TL.done ?_
  refine NX.seq ?_
  refine WC.seq ?_
  refine WC.region ?_
  refine TL.yld rfl rfl (yld_fieldAddr rfl fo_38_0 rfl) ?_
  refine TL.yld rfl rfl (yld_load1 0 rfl ag_35 rfl (Box.cells hb8) rfl rfl) ?_
  refine TL.yld rfl rfl (ye_len (c := C_Latch) rfl Try.underlying35 rfl (slRep.old ha2 he10 (Nat.le_refl _))) ?_
  obtain ⟨n12, hk13, hF⟩ := bsome hF
  refine TL.eff rfl rfl (eff_make (c := (cInt .i64)) (z := 0) rfl Try.underlying45 in_2 rfl rfl rfl hk13 rfl rfl (fun _ => rfl)) ?_
  rintro v14 w15 ⟨g16, hv17, hg18, hz19, hx20, hs21⟩
  have he22 : Ext w w15 := Ext.trans he10 hx20
  have hb8 := Box.ext hb8 hx20
  have hz23 := (hx20).size
  have hlo24 : w.heap.size ≤ g16 := by rw [hg18]; exact (he10).size
  have hbd25 := bd_of hv17
  clear hv17
  refine TL.yld rfl rfl (yld_assign rfl rfl) ?_
  refine TL.done ?_
  refine NX.seq ?_
  refine WC.seq ?_
  refine WC.seq ?_
  refine WC.region ?_
  refine TL.yld rfl rfl (yld_fieldAddr rfl fo_38_0 rfl) ?_
  refine TL.yld rfl rfl (yld_load1 0 rfl ag_35 rfl (Box.cells hb8) rfl rfl) ?_
  refine TL.yld rfl rfl (ye_len (c := C_Latch) rfl Try.underlying35 rfl (slRep.old ha2 he22 (Nat.le_refl _))) ?_
  refine TL.yld rfl rfl (yld_move rfl rfl) ?_
  refine TL.done ?_
  refine NX.seq ?_
  refine WC.block ?_
  refine WC.loop (fun m33 a wl => ∃ (i29 : Int) (l31 : List Int), Kn 72 [(1, .pointer (some ⟨b5, 0, none⟩)), (4, v14), (16, v1), (17, .int .i64 ((a0_s.Latches.length : Int))), (18, .int .i64 i29)] a ∧ Ext w wl ∧ w15.heap.size ≤ wl.heap.size ∧ Box wl b5 [v1, v3] 38 ∧ ownR (cInt .i64) wl (g16) (Iv 0 0) 2 l31 v14 ∧ F_impl_LatchSystem_departures_L1 a0_s (fun i29 l31 => (F_impl_LatchSystem_departures_L2 n a0_s l31 (fun i35 l37 => (some (([] : List Int), false))) n 0 l31)) m33 i29 l31 = some r) n ?_ ?_
  · intro a hK; exact ⟨0, (List.replicate n12 0), hK.weaken ⟨rfl, rfl, rfl, rfl, rfl, trivial⟩, he22, Nat.le_refl _, hb8, hs21, hF⟩
  · rintro m33 a w27 ⟨i29, l31, hK, he28, hz34, hb30, hs32, hF⟩
    revert hK; revert a; refine (?_ : WC _ _ _ _ _ _)
    cases m33 with
    | zero => rw [F_impl_LatchSystem_departures_L1_z] at hF; cases hF
    | succ m33 =>
      rw [F_impl_LatchSystem_departures_L1_s] at hF
      refine WC.seq ?_
      refine WC.region ?_
      refine TL.yld rfl rfl (yld_lss rfl rfl rfl) ?_
      refine TL.done ?_
      refine NX.seq ?_
      refine WC.seq ?_
      refine WC.cond rfl ?_ ?_
      · intro hc35
        replace hF := bif_t hc35 hF
        refine WC.skip' ?_
        refine NX.seq ?_
        refine WC.seq ?_
        refine WC.block ?_
        refine WC.seq ?_
        refine WC.region ?_
        refine TL.yld rfl rfl (yld_move rfl rfl) ?_
        obtain ⟨x36, hy37, hF⟩ := bsome hF
        refine TL.ye rfl rfl (ye_index (c := C_Latch) rfl Try.underlying35 cn_50 rfl rfl (slRep.old ha2 he28 (Nat.le_refl _)) hy37) ?_
        rintro _ ⟨b38, o39, us40, rfl, hib43, hr41, hcl42⟩
        have hib43 : 0 ≤ b38 ∧ b38 < w.heap.size := ⟨hib43.1, by have := hib43.2; omega⟩
        obtain rfl := C_Latch_open hr41
        refine TL.yld rfl rfl (yld_loadN (us := [.int .i64 x36.Open, .int .i64 x36.Close]) rfl ag_50 rfl hcl42 cn_50) ?_
        refine TL.eff rfl rfl (eff_alloc rfl zn_50) ?_
        rintro _ w45 ⟨b44, rfl, hn46⟩
        obtain ⟨hn46e, hn46s, hn46x, hb47⟩ := hn46
        have hb47 : Box w45 b44 [.int .i64 0, .int .i64 0] 50 := hb47
        have he49 : Ext w w45 := Ext.trans he28 hn46x
        have hb30 := Box.ext hb30 hn46x
        have hs32 := ownR.ext hs32 hn46x
        have hz50 := (hn46x).size
        have hlo48 : w.heap.size ≤ b44 := by rw [hn46e]; exact (he28).size
        refine TL.yld rfl rfl (yld_assign rfl rfl) ?_
        refine TL.eff rfl rfl (eff_store rfl rfl rfl hb47 cn_50 rfl rfl) ?_
        rintro _ w51 ⟨hu52, hb53⟩
        have he54 : Ext w w51 := Below.trans he49 (Upd.below hu52 (by omega))
        have hb30 := Box.upd hb30 hu52 (by omega)
        have hs32 := ownR.upd hs32 hu52 (fun g hg => by have := hbd25 g hg; omega)
        have hz55 := (hu52).size
        have hb47 : Box w51 b44 [.int .i64 x36.Open, .int .i64 x36.Close] 50 := hb53
        refine TL.done ?_
        refine NX.seq ?_
        refine WC.region ?_
        refine TL.yld rfl rfl (yld_move rfl rfl) ?_
        refine TL.yld rfl rfl (yld_move rfl rfl) ?_
        refine TL.yld rfl rfl (yld_fieldAddr rfl fo_50_0 rfl) ?_
        refine TL.yld rfl rfl (yld_load1 0 rfl ag_2 rfl (Box.cells hb47) rfl rfl) ?_
        obtain ⟨x56, hy57, hF⟩ := bsome hF
        refine TL.ye rfl rfl (ye_index_own (c := (cInt .i64)) rfl Try.underlying45 cn_2 rfl rfl hs32 hy57) ?_
        rintro _ ⟨g58, us60, rfl, hg59, hr61, hcl62⟩
        have hr61r := hr61
        obtain rfl := hr61
        refine TL.eff rfl rfl (eff_store_own (c := (cInt .i64)) (us' := [.int .i64 x36.Open]) (y' := x36.Open) 0 _ rfl rfl rfl hs32 hg59 hy57 rfl cn_2 rfl hr61r hcl62 rfl rfl rfl (fun k h => absurd h.2 (Nat.not_lt_zero k))) ?_
        rintro _ w63 ⟨hu64, hs65⟩
        have he66 : Ext w w63 := Below.trans he54 (Upd.below hu64 (by have := hbd25 _ hg59; omega))
        have hb30 := Box.upd hb30 hu64 (by have := hbd25 _ hg59; omega)
        have hb47 := Box.upd hb47 hu64 (by have := hbd25 _ hg59; omega)
        have hz67 := (hu64).size
        refine TL.done ?_
        refine NX.blk_n ?_
        refine NX.seq ?_
        refine WC.region ?_
        refine TL.yld rfl rfl (yld_add rfl rfl rfl) ?_
        refine TL.yld rfl rfl (yld_move rfl rfl) ?_
        refine TL.done ?_
        refine NX.then_n ?_
        intro a hK; exact ⟨m33, Nat.lt_succ_self m33, (IntKind.wrap IntKind.i64 (i29 + 1)), ((l31.set (i29).toNat x36.Open)), hK.weaken ⟨rfl, rfl, rfl, rfl, rfl, trivial⟩, he66, (by omega), hb30, hs65, hF⟩
      · intro hc68
        replace hF := bif_f hc68 hF
        refine WC.exit' ?_
        refine NX.then_e ?_
        refine NX.then_e ?_
        refine NX.blk_hit ?_
        refine NX.seq ?_
        refine WC.seq ?_
        refine WC.seq ?_
        refine WC.region ?_
        refine TL.yld rfl rfl (yld_move rfl rfl) ?_
        refine TL.yld rfl rfl (yld_len_own (c := (cInt .i64)) rfl Try.underlying45 rfl hs32) ?_
        refine TL.yld rfl rfl (yld_add rfl rfl rfl) ?_
        refine TL.yld rfl rfl (yld_move rfl rfl) ?_
        refine TL.done ?_
        refine NX.seq ?_
        refine WC.block ?_
        refine WC.loop (fun m75 a wl => ∃ (i71 : Int) (l73 : List Int), Kn 72 [(1, .pointer (some ⟨b5, 0, none⟩)), (4, v14), (31, .int .i64 (IntKind.wrap IntKind.i64 (((l31.length : Int)) + 1))), (32, .int .i64 i71)] a ∧ Ext w wl ∧ w27.heap.size ≤ wl.heap.size ∧ Box wl b5 [v1, v3] 38 ∧ ownR (cInt .i64) wl (g16) (Iv 0 0) 2 l73 v14 ∧ F_impl_LatchSystem_departures_L2 n a0_s l31 (fun i71 l73 => (some (([] : List Int), false))) m75 i71 l73 = some r) n ?_ ?_
        · intro a hK; exact ⟨0, l31, hK.weaken ⟨rfl, rfl, rfl, rfl, trivial⟩, he28, Nat.le_refl _, hb30, hs32, hF⟩
        · rintro m75 a w69 ⟨i71, l73, hK, he70, hz76, hb72, hs74, hF⟩
          revert hK; revert a; refine (?_ : WC _ _ _ _ _ _)
          cases m75 with
          | zero => rw [F_impl_LatchSystem_departures_L2_z] at hF; cases hF
          | succ m75 =>
            rw [F_impl_LatchSystem_departures_L2_s] at hF
            refine WC.seq ?_
            refine WC.region ?_
            refine TL.yld rfl rfl (yld_lss rfl rfl rfl) ?_
            refine TL.done ?_
            refine NX.seq ?_
            refine WC.seq ?_
            refine WC.cond rfl ?_ ?_
            · intro hc77
              replace hF := bif_t hc77 hF
              refine WC.skip' ?_
              refine NX.seq ?_
              refine WC.seq ?_
              refine WC.block ?_
              refine WC.seq ?_
              refine WC.region ?_
              refine TL.yld rfl rfl (yld_loadN (us := [v1, v3]) rfl ag_38 rfl (Box.cells hb72) cn_38) ?_
              refine TL.yld rfl rfl (yld_move rfl rfl) ?_
              obtain ⟨r78, hr79, hF⟩ := bsome hF
              refine TL.eff rfl rfl (eff_call rfl gf_78 rfl (W_impl_LatchSystem_arrivals hr79 ((slRep.old ha2 he70 (Nat.le_refl _)).wide (Nat.le_refl _) (he70).size) ((slRep.old ha4 he70 (Nat.le_refl _)).wide (Nat.le_refl _) (he70).size) (ownR.slf hs74 (Nat.zero_le _) (Nat.le_refl _)))) ?_
              rintro _ w80 ⟨v82, v86, rfl, hs83, hs87, hp90, hx81⟩
              have he91 : Ext w w80 := Ext.trans he70 hx81
              have hb72 := Box.ext hb72 hx81
              have hs74 := ownR.ext hs74 hx81
              have hz92 := (hx81).size
              have hbd85 := ownR.blk hs83
              have hbd89 := ownR.blk hs87
              refine TL.yld rfl rfl (yld_move rfl rfl) ?_
              refine TL.yld rfl rfl (yld_extract rfl rfl rfl) ?_
              refine TL.yld rfl rfl (yld_extract rfl rfl rfl) ?_
              refine TL.yld rfl rfl (yld_assign rfl rfl) ?_
              refine TL.yld rfl rfl (yld_assign rfl rfl) ?_
              refine TL.done ?_
              refine NX.seq ?_
              refine WC.seq ?_
              refine WC.region ?_
              refine TL.yld rfl rfl (yld_assign rfl rfl) ?_
              refine TL.done ?_
              refine NX.seq ?_
              refine WC.seq ?_
              refine WC.seq ?_
              refine WC.region ?_
              refine TL.yld rfl rfl (yld_move rfl rfl) ?_
              refine TL.yld rfl rfl (yld_len_own (c := (cInt .i64)) rfl Try.underlying45 rfl hs74) ?_
              refine TL.yld rfl rfl (yld_move rfl rfl) ?_
              refine TL.done ?_
              refine NX.seq ?_
              refine WC.block ?_
              refine WC.loop (fun m102 a wl => ∃ (q95 : Bool) (i96 : Int) (l98 : List Int), Kn 72 [(1, .pointer (some ⟨b5, 0, none⟩)), (4, v14), (7, v82), (8, v86), (9, .bool q95), (31, .int .i64 (IntKind.wrap IntKind.i64 (((l31.length : Int)) + 1))), (32, .int .i64 i71), (41, .int .i64 ((l73.length : Int))), (42, .int .i64 i96)] a ∧ Ext w wl ∧ w80.heap.size ≤ wl.heap.size ∧ Box wl b5 [v1, v3] 38 ∧ ownR (cInt .i64) wl (g16) (Iv 0 0) 2 l98 v14 ∧ ownR (cInt .i64) wl (w69.heap.size) (Iv 0 0) 2 r78.1 v82 ∧ ownR cBool wl (w69.heap.size) (Iv 0 0) 4 r78.2 v86 ∧ F_impl_LatchSystem_departures_L3 l73 r78 (fun q95 i96 l98 => (bif (!q95) then (some (l98, true)) else (F_impl_LatchSystem_departures_L2 n a0_s l31 (fun i71 l73 => (some (([] : List Int), false))) m75 (IntKind.wrap IntKind.i64 (i71 + 1)) l98))) m102 q95 i96 l98 = some r) n ?_ ?_
              · intro a hK; exact ⟨false, 0, l73, hK.weaken ⟨rfl, rfl, rfl, rfl, rfl, rfl, rfl, rfl, rfl, trivial⟩, he91, Nat.le_refl _, hb72, hs74, hs83, hs87, hF⟩
              · rintro m102 a w93 ⟨q95, i96, l98, hK, he94, hz103, hb97, hs99, hs100, hs101, hF⟩
                revert hK; revert a; refine (?_ : WC _ _ _ _ _ _)
                cases m102 with
                | zero => rw [F_impl_LatchSystem_departures_L3_z] at hF; cases hF
                | succ m102 =>
                  rw [F_impl_LatchSystem_departures_L3_s] at hF
                  refine WC.seq ?_
                  refine WC.region ?_
                  refine TL.yld rfl rfl (yld_lss rfl rfl rfl) ?_
                  refine TL.done ?_
                  refine NX.seq ?_
                  refine WC.seq ?_
                  refine WC.cond rfl ?_ ?_
                  · intro hc104
                    replace hF := bif_t hc104 hF
                    refine WC.skip' ?_
                    refine NX.seq ?_
                    refine WC.seq ?_
                    refine WC.block ?_
                    refine WC.seq ?_
                    refine WC.region ?_
                    refine TL.yld rfl rfl (yld_move rfl rfl) ?_
                    refine TL.yld rfl rfl (yld_assign rfl rfl) ?_
                    refine TL.done ?_
                    refine NX.seq ?_
                    refine WC.seq ?_
                    refine WC.quiet Try.hm (by kernel_rfl) ?_
                    refine QL.yld rfl rfl (Yld.qui (yld_move rfl rfl)) ?_
                    refine QL.yld rfl rfl (Yld.qui (yld_move rfl rfl)) ?_
                    obtain ⟨x105, hy106, hF⟩ := bsome hF
                    refine QL.ye rfl rfl (ye_index_own (c := cBool) rfl Try.underlying95 cn_4 rfl rfl hs101 hy106) ?_
                    rintro _ ⟨g107, us109, rfl, hg108, hr110, hcl111⟩
                    have hr110r := hr110
                    obtain rfl := hr110
                    refine QL.yld rfl rfl (Yld.qui (yld_load1 0 rfl ag_4 rfl hcl111 rfl rfl)) ?_
                    refine QL.yld rfl rfl (Yld.qui (yld_move rfl rfl)) ?_
                    obtain ⟨c112, hb113, hF⟩ := bsome hF
                    refine QL.cut 10 [(1, .pointer (some ⟨b5, 0, none⟩)), (4, v14), (7, v82), (8, v86), (9, .bool q95), (10, .int .i64 i96), (31, .int .i64 (IntKind.wrap IntKind.i64 (((l31.length : Int)) + 1))), (32, .int .i64 i71), (41, .int .i64 ((l73.length : Int))), (42, .int .i64 i96), (59, .bool c112)] ?_ ?_
                    · rcases Bool.eq_false_or_eq_true x105 with hg114 | hg114
                      ·
                        rw [hg114] at hb113; simp only [cond_true, cond_false] at hb113
                        replace hF := hb113
                        refine QL.gy (j := 4) (t := 49) rfl rfl rfl hg114 rfl (Yld.qui (yld_move rfl rfl)) ?_
                        refine QL.gy (j := 4) (t := 49) rfl rfl rfl hg114 rfl (Yld.qui (yld_move rfl rfl)) ?_
                        obtain ⟨x115, hy116, hF⟩ := bsome hF
                        refine QL.yeg (j := 4) (t := 49) rfl rfl rfl hg114 rfl (ye_index_own (c := (cInt .i64)) rfl Try.underlying45 cn_2 rfl rfl hs100 hy116) ?_
                        rintro _ ⟨g117, us119, rfl, hg118, hr120, hcl121⟩
                        have hr120r := hr120
                        obtain rfl := hr120
                        refine QL.gy (j := 4) (t := 49) rfl rfl rfl hg114 rfl (Yld.qui (yld_load1 0 rfl ag_2 rfl hcl121 rfl rfl)) ?_
                        refine QL.gy (j := 4) (t := 49) rfl rfl rfl hg114 rfl (Yld.qui (yld_move rfl rfl)) ?_
                        refine QL.gy (j := 4) (t := 49) rfl rfl rfl hg114 rfl (Yld.qui (yld_move rfl rfl)) ?_
                        obtain ⟨x122, hy123, hF⟩ := bsome hF
                        refine QL.yeg (j := 4) (t := 49) rfl rfl rfl hg114 rfl (ye_index_own (c := (cInt .i64)) rfl Try.underlying45 cn_2 rfl rfl hs99 hy123) ?_
                        rintro _ ⟨g124, us126, rfl, hg125, hr127, hcl128⟩
                        have hr127r := hr127
                        obtain rfl := hr127
                        refine QL.gy (j := 4) (t := 49) rfl rfl rfl hg114 rfl (Yld.qui (yld_load1 0 rfl ag_2 rfl hcl128 rfl rfl)) ?_
                        refine QL.gy (j := 4) (t := 49) rfl rfl rfl hg114 rfl (Yld.qui (yld_gtr rfl rfl rfl)) ?_
                        obtain rfl := Option.some.inj hF
                        refine QL.yld rfl rfl (Yld.qui (yld_pick_t rfl rfl hg114 rfl)) ?_
                        exact QL.nil fun a h => h.weaken ⟨rfl, rfl, rfl, rfl, rfl, rfl, rfl, rfl, rfl, rfl, rfl, trivial⟩
                      ·
                        rw [hg114] at hb113; simp only [cond_true, cond_false] at hb113
                        refine QL.gnu (j := 4) (t := 49) rfl rfl rfl hg114 rfl ?_
                        refine QL.gnu (j := 4) (t := 49) rfl rfl rfl hg114 rfl ?_
                        refine QL.gnu (j := 4) (t := 49) rfl rfl rfl hg114 rfl ?_
                        refine QL.gnu (j := 4) (t := 49) rfl rfl rfl hg114 rfl ?_
                        refine QL.gnu (j := 4) (t := 49) rfl rfl rfl hg114 rfl ?_
                        refine QL.gnu (j := 4) (t := 49) rfl rfl rfl hg114 rfl ?_
                        refine QL.gnu (j := 4) (t := 49) rfl rfl rfl hg114 rfl ?_
                        refine QL.gnu (j := 4) (t := 49) rfl rfl rfl hg114 rfl ?_
                        refine QL.gnu (j := 4) (t := 49) rfl rfl rfl hg114 rfl ?_
                        obtain rfl := Option.some.inj hb113
                        refine QL.yld rfl rfl (Yld.qui (yld_pick_f rfl rfl hg114 rfl)) ?_
                        exact QL.nil fun a h => h.weaken ⟨rfl, rfl, rfl, rfl, rfl, rfl, rfl, rfl, rfl, rfl, rfl, trivial⟩
                    refine QL.done fun w129 hx130 => ?_
                    have he131 : Ext w w129 := Ext.trans he94 hx130
                    have hb97 := Box.ext hb97 hx130
                    have hs99 := ownR.ext hs99 hx130
                    have hs100 := ownR.ext hs100 hx130
                    have hs101 := ownR.ext hs101 hx130
                    have hz132 := (hx130).size
                    refine NX.seq ?_
                    refine WC.cond rfl ?_ ?_
                    · intro hc133
                      replace hF := bif_t hc133 hF
                      refine WC.region ?_
                      refine TL.yld rfl rfl (yld_move rfl rfl) ?_
                      refine TL.yld rfl rfl (yld_move rfl rfl) ?_
                      refine TL.yld rfl rfl (yld_move rfl rfl) ?_
                      refine TL.yld rfl rfl (yld_move rfl rfl) ?_
                      obtain ⟨x134, hy135, hF⟩ := bsome hF
                      refine TL.ye rfl rfl (ye_index_own (c := (cInt .i64)) rfl Try.underlying45 cn_2 rfl rfl hs100 hy135) ?_
                      rintro _ ⟨g136, us138, rfl, hg137, hr139, hcl140⟩
                      have hr139r := hr139
                      obtain rfl := hr139
                      refine TL.yld rfl rfl (yld_load1 0 rfl ag_2 rfl hcl140 rfl rfl) ?_
                      obtain ⟨x141, hy142, hF⟩ := bsome hF
                      refine TL.ye rfl rfl (ye_index_own (c := (cInt .i64)) rfl Try.underlying45 cn_2 rfl rfl hs99 hy142) ?_
                      rintro _ ⟨g143, us145, rfl, hg144, hr146, hcl147⟩
                      have hr146r := hr146
                      obtain rfl := hr146
                      refine TL.eff rfl rfl (eff_store_own (c := (cInt .i64)) (us' := [.int .i64 x134]) (y' := x134) 0 _ rfl rfl rfl hs99 hg144 hy142 rfl cn_2 rfl hr146r hcl147 rfl rfl rfl (fun k h => absurd h.2 (Nat.not_lt_zero k))) ?_
                      rintro _ w148 ⟨hu149, hs150⟩
                      have he151 : Ext w w148 := Below.trans he131 (Upd.below hu149 (by have := hbd25 _ hg144; omega))
                      have hb97 := Box.upd hb97 hu149 (by have := hbd25 _ hg144; omega)
                      have hs100 := ownR.upd hs100 hu149 (fun q hq => by have := hbd85 q hq; have := hbd25 _ hg144; omega)
                      have hs101 := ownR.upd hs101 hu149 (fun q hq => by have := hbd89 q hq; have := hbd25 _ hg144; omega)
                      have hz152 := (hu149).size
                      refine TL.yld rfl rfl (yld_assign rfl rfl) ?_
                      refine TL.done ?_
                      refine NX.blk_n ?_
                      refine NX.seq ?_
                      refine WC.region ?_
                      refine TL.yld rfl rfl (yld_add rfl rfl rfl) ?_
                      refine TL.yld rfl rfl (yld_move rfl rfl) ?_
                      refine TL.done ?_
                      refine NX.then_n ?_
                      intro a hK; exact ⟨m102, Nat.lt_succ_self m102, true, (IntKind.wrap IntKind.i64 (i96 + 1)), ((l98.set (i96).toNat x134)), hK.weaken ⟨rfl, rfl, rfl, rfl, rfl, rfl, rfl, rfl, rfl, trivial⟩, he151, (by omega), hb97, hs150, hs100, hs101, hF⟩
                    · intro hc153
                      replace hF := bif_f hc153 hF
                      refine WC.skip' ?_
                      refine NX.blk_n ?_
                      refine NX.seq ?_
                      refine WC.region ?_
                      refine TL.yld rfl rfl (yld_add rfl rfl rfl) ?_
                      refine TL.yld rfl rfl (yld_move rfl rfl) ?_
                      refine TL.done ?_
                      refine NX.then_n ?_
                      intro a hK; exact ⟨m102, Nat.lt_succ_self m102, q95, (IntKind.wrap IntKind.i64 (i96 + 1)), l98, hK.weaken ⟨rfl, rfl, rfl, rfl, rfl, rfl, rfl, rfl, rfl, trivial⟩, he131, (by omega), hb97, hs99, hs100, hs101, hF⟩
                  · intro hc154
                    replace hF := bif_f hc154 hF
                    refine WC.exit' ?_
                    refine NX.then_e ?_
                    refine NX.then_e ?_
                    refine NX.blk_hit ?_
                    refine NX.seq ?_
                    refine WC.seq ?_
                    refine WC.region ?_
                    refine TL.yld rfl rfl (yld_move rfl rfl) ?_
                    refine TL.yld rfl rfl (yld_not rfl rfl) ?_
                    refine TL.done ?_
                    refine NX.seq ?_
                    refine WC.cond rfl ?_ ?_
                    · intro hc155
                      replace hF := bif_t hc155 hF
                      refine WC.seq ?_
                      refine WC.region ?_
                      refine TL.yld rfl rfl (yld_move rfl rfl) ?_
                      refine TL.yld rfl rfl (yld_assign rfl rfl) ?_
                      refine TL.yld rfl rfl (yld_assign rfl rfl) ?_
                      refine TL.done ?_
                      refine NX.seq ?_
                      refine WC.ret' ?_
                      refine NX.blk_r ?_
                      refine NX.then_r ?_
                      refine NX.then_r ?_
                      refine NX.blk_r ?_
                      refine NX.then_r ?_
                      obtain rfl := Option.some.inj hF
                      exact NX.end (rs := [.tmp 2, .tmp 3]) (vs := [v14, .bool true]) rfl ⟨rfl, rfl, trivial⟩ ⟨_, rfl, _, rfl, ownR.base hs99 (by omega), he94⟩
                    · intro hc156
                      replace hF := bif_f hc156 hF
                      refine WC.skip' ?_
                      refine NX.blk_n ?_
                      refine NX.seq ?_
                      refine WC.region ?_
                      refine TL.yld rfl rfl (yld_add rfl rfl rfl) ?_
                      refine TL.yld rfl rfl (yld_move rfl rfl) ?_
                      refine TL.done ?_
                      refine NX.then_n ?_
                      intro a hK; exact ⟨m75, Nat.lt_succ_self m75, (IntKind.wrap IntKind.i64 (i71 + 1)), l98, hK.weaken ⟨rfl, rfl, rfl, rfl, trivial⟩, he94, (by omega), hb97, hs99, hF⟩
            · intro hc157
              replace hF := bif_f hc157 hF
              refine WC.exit' ?_
              refine NX.then_e ?_
              refine NX.then_e ?_
              refine NX.blk_hit ?_
              refine NX.seq ?_
              refine WC.seq ?_
              refine WC.region ?_
              refine TL.yld rfl rfl (yld_assign rfl rfl) ?_
              refine TL.yld rfl rfl (yld_assign rfl rfl) ?_
              refine TL.done ?_
              refine NX.seq ?_
              refine WC.ret' ?_
              obtain rfl := Option.some.inj hF
              exact NX.end (rs := [.tmp 2, .tmp 3]) (vs := [.slice none 0 0, .bool false]) rfl ⟨rfl, rfl, trivial⟩ ⟨_, rfl, _, rfl, ownR.nil _ _ _ _ _, he70⟩

-- loop.example/g00861/impl.latchTimes
def F_impl_latchTimes_L1 (a0_s : S_LatchSystem) (r32 : (List Int) × (List Bool)) (k0 : Int → (List Int) → Option ((List Int) × (List Int) × Int)) : Nat → Int → (List Int) → Option ((List Int) × (List Int) × Int)
  | 0 => fun _ _ => none
  | m + 1 => fun i49 l51 => (bif decide (i49 < (a0_s.Latches.length : Int)) then (Option.bind (getI a0_s.Latches i49) fun x55 => (Option.bind (getI r32.2 i49) fun x75 => (bif (!x75) then (Option.bind (getI l51 i49) fun x83 => (F_impl_latchTimes_L1 a0_s r32 k0 m (IntKind.wrap IntKind.i64 (i49 + 1)) ((l51.set (i49).toNat x55.Open)))) else (F_impl_latchTimes_L1 a0_s r32 k0 m (IntKind.wrap IntKind.i64 (i49 + 1)) l51)))) else (k0 i49 l51))
theorem F_impl_latchTimes_L1_z (a0_s : S_LatchSystem) (r32 : (List Int) × (List Bool)) (k0 : Int → (List Int) → Option ((List Int) × (List Int) × Int)) (i49 : Int) (l51 : List Int) : F_impl_latchTimes_L1 a0_s r32 k0 0 i49 l51 = none := rfl
theorem F_impl_latchTimes_L1_s (m : Nat) (a0_s : S_LatchSystem) (r32 : (List Int) × (List Bool)) (k0 : Int → (List Int) → Option ((List Int) × (List Int) × Int)) (i49 : Int) (l51 : List Int) : F_impl_latchTimes_L1 a0_s r32 k0 (m + 1) i49 l51 = (bif decide (i49 < (a0_s.Latches.length : Int)) then (Option.bind (getI a0_s.Latches i49) fun x55 => (Option.bind (getI r32.2 i49) fun x75 => (bif (!x75) then (Option.bind (getI l51 i49) fun x83 => (F_impl_latchTimes_L1 a0_s r32 k0 m (IntKind.wrap IntKind.i64 (i49 + 1)) ((l51.set (i49).toNat x55.Open)))) else (F_impl_latchTimes_L1 a0_s r32 k0 m (IntKind.wrap IntKind.i64 (i49 + 1)) l51)))) else (k0 i49 l51)) := rfl

def F_impl_latchTimes (n : Nat) (a0_s : S_LatchSystem) : Option ((List Int) × (List Int) × Int) := (Option.bind (F_impl_IsLatchSystem n a0_s) fun r12 => (bif (!r12) then (some (([] : List Int), ([] : List Int), 1)) else (Option.bind (F_impl_LatchSystem_departures n a0_s) fun r20 => (bif (!r20.2) then (some (([] : List Int), ([] : List Int), 7)) else (Option.bind (F_impl_LatchSystem_arrivals n a0_s r20.1) fun r32 => (F_impl_latchTimes_L1 a0_s r32 (fun i49 l51 => (some (r20.1, l51, 0))) n 0 r32.1))))))
set_option maxHeartbeats 40000000 in
theorem W_impl_latchTimes {n : Nat} {a0_s : S_LatchSystem} {r : (List Int) × (List Int) × Int} {w : World} {v1 : Value} {v3 : Value} (hF : F_impl_latchTimes n a0_s = some r) (ha2 : slRep C_Latch w (Iv 0 w.heap.size) a0_s.Latches v1) (ha4 : slRep C_LatchLink w (Iv 0 w.heap.size) a0_s.Links v3) :
    Calls Try.prog 66 [.agg #[v1, v3]].toArray w (Ret fun u w2 => ∃ v0_0 v1_0, u = .tuple #[v0_0, v1_0, .int .i64 r.2.2] ∧ ownR (cInt .i64) w2 w.heap.size (Iv 0 0) 2 r.1 v0_0 ∧ ownR (cInt .i64) w2 w.heap.size (Iv 0 0) 2 r.2.1 v1_0 ∧ (∀ g q, v1_0.ownBlock = some g → v0_0.ownBlock = some q → g ≠ q) ∧ Ext w w2) := by
  refine calls_of Try.func66 rfl Try.ntmps66 ?_
  have he0 : Ext w w := Ext.refl w
  unfold F_impl_latchTimes at hF
  refine WC.seq ?_
  refine WC.region ?_
  refine TL.eff rfl rfl (eff_box rfl rfl) ?_
  rintro _ w6 ⟨b5, rfl, hn7⟩
  obtain ⟨hn7e, hn7s, hn7x, hb8⟩ := hn7
  have hb8 : Box w6 b5 [v1, v3] 38 := hb8
  have he10 : Ext w w6 := Ext.trans he0 hn7x
  have hz11 := (hn7x).size
  have hlo9 : w.heap.size ≤ b5 := by rw [hn7e]; exact (he0).size
  refine TL.yld rfl rfl (yld_assign rfl rfl) ?_
  refine TL.yld rfl rfl (yld_assign rfl rfl) ?_
  refine TL.yld rfl rfl (yld_assign rfl rfl) ?_
  refine TL.done ?_
  refine NX.seq ?_
  refine WC.seq ?_
  refine WC.seq ?_
  refine WC.region ?_
  refine TL.yld rfl rfl (yld_loadN (us := [v1, v3]) rfl ag_38 rfl (Box.cells hb8) cn_38) ?_
  obtain ⟨r12, hr13, hF⟩ := bsome hF
  refine TL.eff rfl rfl (eff_call rfl gf_21 rfl (W_impl_IsLatchSystem hr13 ((slRep.old ha2 he10 (Nat.le_refl _)).wide (Nat.le_refl _) (he10).size) ((slRep.old ha4 he10 (Nat.le_refl _)).wide (Nat.le_refl _) (he10).size))) ?_
  rintro _ w14 ⟨rfl, hx15⟩
  have he16 : Ext w w14 := Ext.trans he10 hx15
  have hb8 := Box.ext hb8 hx15
  have hz17 := (hx15).size
  refine TL.yld rfl rfl (yld_not rfl rfl) ?_
  refine TL.done ?_
  refine NX.seq ?_
  refine WC.cond rfl ?_ ?_
  · intro hc18
    replace hF := bif_t hc18 hF
    refine WC.seq ?_
    refine WC.region ?_
    refine TL.yld rfl rfl (yld_assign rfl rfl) ?_
    refine TL.yld rfl rfl (yld_assign rfl rfl) ?_
    refine TL.yld rfl rfl (yld_assign rfl rfl) ?_
    refine TL.done ?_
    refine NX.seq ?_
    refine WC.ret' ?_
    refine NX.then_r ?_
    obtain rfl := Option.some.inj hF
    exact NX.end (rs := [.tmp 2, .tmp 3, .tmp 4]) (vs := [.slice none 0 0, .slice none 0 0, .int .i64 1]) rfl ⟨rfl, rfl, rfl, trivial⟩ ⟨_, rfl, _, _, rfl, ownR.nil _ _ _ _ _, ownR.nil _ _ _ _ _, (fun g q hg hq => by first | cases hg | cases hq), he16⟩
  · intro hc19
    replace hF := bif_f hc19 hF
    refine WC.skip' ?_
    refine NX.seq ?_
    refine WC.seq ?_
    refine WC.region ?_
    refine TL.yld rfl rfl (yld_loadN (us := [v1, v3]) rfl ag_38 rfl (Box.cells hb8) cn_38) ?_
    obtain ⟨r20, hr21, hF⟩ := bsome hF
    refine TL.eff rfl rfl (eff_call rfl gf_94 rfl (W_impl_LatchSystem_departures hr21 ((slRep.old ha2 he16 (Nat.le_refl _)).wide (Nat.le_refl _) (he16).size) ((slRep.old ha4 he16 (Nat.le_refl _)).wide (Nat.le_refl _) (he16).size))) ?_
    rintro _ w22 ⟨v24, rfl, hs25, hx23⟩
    have he28 : Ext w w22 := Ext.trans he16 hx23
    have hb8 := Box.ext hb8 hx23
    have hz29 := (hx23).size
    have hbd27 := ownR.blk hs25
    refine TL.yld rfl rfl (yld_move rfl rfl) ?_
    refine TL.yld rfl rfl (yld_extract rfl rfl rfl) ?_
    refine TL.yld rfl rfl (yld_extract rfl rfl rfl) ?_
    refine TL.yld rfl rfl (yld_assign rfl rfl) ?_
    refine TL.yld rfl rfl (yld_assign rfl rfl) ?_
    refine TL.done ?_
    refine NX.seq ?_
    refine WC.seq ?_
    refine WC.seq ?_
    refine WC.region ?_
    refine TL.yld rfl rfl (yld_move rfl rfl) ?_
    refine TL.yld rfl rfl (yld_not rfl rfl) ?_
    refine TL.done ?_
    refine NX.seq ?_
    refine WC.cond rfl ?_ ?_
    · intro hc30
      replace hF := bif_t hc30 hF
      refine WC.seq ?_
      refine WC.region ?_
      refine TL.yld rfl rfl (yld_assign rfl rfl) ?_
      refine TL.yld rfl rfl (yld_assign rfl rfl) ?_
      refine TL.yld rfl rfl (yld_assign rfl rfl) ?_
      refine TL.done ?_
      refine NX.seq ?_
      refine WC.ret' ?_
      refine NX.then_r ?_
      obtain rfl := Option.some.inj hF
      exact NX.end (rs := [.tmp 2, .tmp 3, .tmp 4]) (vs := [.slice none 0 0, .slice none 0 0, .int .i64 7]) rfl ⟨rfl, rfl, rfl, trivial⟩ ⟨_, rfl, _, _, rfl, ownR.nil _ _ _ _ _, ownR.nil _ _ _ _ _, (fun g q hg hq => by first | cases hg | cases hq), he28⟩
    · intro hc31
      replace hF := bif_f hc31 hF
      refine WC.skip' ?_
      refine NX.seq ?_
      refine WC.seq ?_
      refine WC.region ?_
      refine TL.yld rfl rfl (yld_loadN (us := [v1, v3]) rfl ag_38 rfl (Box.cells hb8) cn_38) ?_
      refine TL.yld rfl rfl (yld_move rfl rfl) ?_
      obtain ⟨r32, hr33, hF⟩ := bsome hF
      refine TL.eff rfl rfl (eff_call rfl gf_78 rfl (W_impl_LatchSystem_arrivals hr33 ((slRep.old ha2 he28 (Nat.le_refl _)).wide (Nat.le_refl _) (he28).size) ((slRep.old ha4 he28 (Nat.le_refl _)).wide (Nat.le_refl _) (he28).size) (ownR.slf hs25 (Nat.zero_le _) (Nat.le_refl _)))) ?_
      rintro _ w34 ⟨v36, v40, rfl, hs37, hs41, hp44, hx35⟩
      have he45 : Ext w w34 := Ext.trans he28 hx35
      have hb8 := Box.ext hb8 hx35
      have hs25 := ownR.ext hs25 hx35
      have hz46 := (hx35).size
      have hbd39 := ownR.blk hs37
      have hbd43 := ownR.blk hs41
      refine TL.yld rfl rfl (yld_move rfl rfl) ?_
      refine TL.yld rfl rfl (yld_extract rfl rfl rfl) ?_
      refine TL.yld rfl rfl (yld_extract rfl rfl rfl) ?_
      refine TL.yld rfl rfl (yld_assign rfl rfl) ?_
      refine TL.yld rfl rfl (yld_assign rfl rfl) ?_
      refine TL.done ?_
      refine NX.seq ?_
      refine WC.seq ?_
      refine WC.seq ?_
      refine WC.region ?_
      refine TL.yld rfl rfl (yld_fieldAddr rfl fo_38_0 rfl) ?_
      refine TL.yld rfl rfl (yld_load1 0 rfl ag_35 rfl (Box.cells hb8) rfl rfl) ?_
      refine TL.yld rfl rfl (ye_len (c := C_Latch) rfl Try.underlying35 rfl (slRep.old ha2 he45 (Nat.le_refl _))) ?_
      refine TL.yld rfl rfl (yld_move rfl rfl) ?_
      refine TL.done ?_
      refine NX.seq ?_
      refine WC.block ?_
      refine WC.loop (fun m54 a wl => ∃ (i49 : Int) (l51 : List Int), Kn 48 [(5, v24), (7, v36), (8, v40), (28, v1), (29, .int .i64 ((a0_s.Latches.length : Int))), (30, .int .i64 i49)] a ∧ Ext w wl ∧ w34.heap.size ≤ wl.heap.size ∧ ownR (cInt .i64) wl (w14.heap.size) (Iv 0 0) 2 r20.1 v24 ∧ ownR (cInt .i64) wl (w22.heap.size) (Iv 0 0) 2 l51 v36 ∧ ownR cBool wl (w22.heap.size) (Iv 0 0) 4 r32.2 v40 ∧ F_impl_latchTimes_L1 a0_s r32 (fun i49 l51 => (some (r20.1, l51, 0))) m54 i49 l51 = some r) n ?_ ?_
      · intro a hK; exact ⟨0, r32.1, hK.weaken ⟨rfl, rfl, rfl, rfl, rfl, rfl, trivial⟩, he45, Nat.le_refl _, hs25, hs37, hs41, hF⟩
      · rintro m54 a w47 ⟨i49, l51, hK, he48, hz55, hs50, hs52, hs53, hF⟩
        revert hK; revert a; refine (?_ : WC _ _ _ _ _ _)
        cases m54 with
        | zero => rw [F_impl_latchTimes_L1_z] at hF; cases hF
        | succ m54 =>
          rw [F_impl_latchTimes_L1_s] at hF
          refine WC.seq ?_
          refine WC.region ?_
          refine TL.yld rfl rfl (yld_lss rfl rfl rfl) ?_
          refine TL.done ?_
          refine NX.seq ?_
          refine WC.seq ?_
          refine WC.cond rfl ?_ ?_
          · intro hc56
            replace hF := bif_t hc56 hF
            refine WC.skip' ?_
            refine NX.seq ?_
            refine WC.seq ?_
            refine WC.block ?_
            refine WC.seq ?_
            refine WC.region ?_
            refine TL.yld rfl rfl (yld_move rfl rfl) ?_
            obtain ⟨x57, hy58, hF⟩ := bsome hF
            refine TL.ye rfl rfl (ye_index (c := C_Latch) rfl Try.underlying35 cn_50 rfl rfl (slRep.old ha2 he48 (Nat.le_refl _)) hy58) ?_
            rintro _ ⟨b59, o60, us61, rfl, hib64, hr62, hcl63⟩
            have hib64 : 0 ≤ b59 ∧ b59 < w.heap.size := ⟨hib64.1, by have := hib64.2; omega⟩
            obtain rfl := C_Latch_open hr62
            refine TL.yld rfl rfl (yld_loadN (us := [.int .i64 x57.Open, .int .i64 x57.Close]) rfl ag_50 rfl hcl63 cn_50) ?_
            refine TL.eff rfl rfl (eff_alloc rfl zn_50) ?_
            rintro _ w66 ⟨b65, rfl, hn67⟩
            obtain ⟨hn67e, hn67s, hn67x, hb68⟩ := hn67
            have hb68 : Box w66 b65 [.int .i64 0, .int .i64 0] 50 := hb68
            have he70 : Ext w w66 := Ext.trans he48 hn67x
            have hs50 := ownR.ext hs50 hn67x
            have hs52 := ownR.ext hs52 hn67x
            have hs53 := ownR.ext hs53 hn67x
            have hz71 := (hn67x).size
            have hlo69 : w.heap.size ≤ b65 := by rw [hn67e]; exact (he48).size
            refine TL.yld rfl rfl (yld_assign rfl rfl) ?_
            refine TL.eff rfl rfl (eff_store rfl rfl rfl hb68 cn_50 rfl rfl) ?_
            rintro _ w72 ⟨hu73, hb74⟩
            have he75 : Ext w w72 := Below.trans he70 (Upd.below hu73 (by omega))
            have hs50 := ownR.upd hs50 hu73 (fun g hg => by have := hbd27 g hg; omega)
            have hs52 := ownR.upd hs52 hu73 (fun g hg => by have := hbd39 g hg; omega)
            have hs53 := ownR.upd hs53 hu73 (fun g hg => by have := hbd43 g hg; omega)
            have hz76 := (hu73).size
            have hb68 : Box w72 b65 [.int .i64 x57.Open, .int .i64 x57.Close] 50 := hb74
            refine TL.done ?_
            refine NX.seq ?_
            refine WC.seq ?_
            refine WC.region ?_
            refine TL.yld rfl rfl (yld_move rfl rfl) ?_
            refine TL.yld rfl rfl (yld_move rfl rfl) ?_
            obtain ⟨x77, hy78, hF⟩ := bsome hF
            refine TL.ye rfl rfl (ye_index_own (c := cBool) rfl Try.underlying95 cn_4 rfl rfl hs53 hy78) ?_
            rintro _ ⟨g79, us81, rfl, hg80, hr82, hcl83⟩
            have hr82r := hr82
            obtain rfl := hr82
            refine TL.yld rfl rfl (yld_load1 0 rfl ag_4 rfl hcl83 rfl rfl) ?_
            refine TL.yld rfl rfl (yld_not rfl rfl) ?_
            refine TL.done ?_
            refine NX.seq ?_
            refine WC.cond rfl ?_ ?_
            · intro hc84
              replace hF := bif_t hc84 hF
              refine WC.region ?_
              refine TL.yld rfl rfl (yld_move rfl rfl) ?_
              refine TL.yld rfl rfl (yld_move rfl rfl) ?_
              refine TL.yld rfl rfl (yld_fieldAddr rfl fo_50_0 rfl) ?_
              refine TL.yld rfl rfl (yld_load1 0 rfl ag_2 rfl (Box.cells hb68) rfl rfl) ?_
              obtain ⟨x85, hy86, hF⟩ := bsome hF
              refine TL.ye rfl rfl (ye_index_own (c := (cInt .i64)) rfl Try.underlying45 cn_2 rfl rfl hs52 hy86) ?_
              rintro _ ⟨g87, us89, rfl, hg88, hr90, hcl91⟩
              have hr90r := hr90
              obtain rfl := hr90
              refine TL.eff rfl rfl (eff_store_own (c := (cInt .i64)) (us' := [.int .i64 x57.Open]) (y' := x57.Open) 0 _ rfl rfl rfl hs52 hg88 hy86 rfl cn_2 rfl hr90r hcl91 rfl rfl rfl (fun k h => absurd h.2 (Nat.not_lt_zero k))) ?_
              rintro _ w92 ⟨hu93, hs94⟩
              have he95 : Ext w w92 := Below.trans he75 (Upd.below hu93 (by have := hbd39 _ hg88; omega))
              have hb68 := Box.upd hb68 hu93 (by have := hbd39 _ hg88; omega)
              have hs50 := ownR.upd hs50 hu93 (fun q hq => by have := hbd27 q hq; have := hbd39 _ hg88; omega)
              have hs53 := ownR.upd hs53 hu93 (fun q hq => by have := hp44 q _ hq hg88; omega)
              have hz96 := (hu93).size
              refine TL.done ?_
              refine NX.blk_n ?_
              refine NX.seq ?_
              refine WC.region ?_
              refine TL.yld rfl rfl (yld_add rfl rfl rfl) ?_
              refine TL.yld rfl rfl (yld_move rfl rfl) ?_
              refine TL.done ?_
              refine NX.then_n ?_
              intro a hK; exact ⟨m54, Nat.lt_succ_self m54, (IntKind.wrap IntKind.i64 (i49 + 1)), ((l51.set (i49).toNat x57.Open)), hK.weaken ⟨rfl, rfl, rfl, rfl, rfl, rfl, trivial⟩, he95, (by omega), hs50, hs94, hs53, hF⟩
            · intro hc97
              replace hF := bif_f hc97 hF
              refine WC.skip' ?_
              refine NX.blk_n ?_
              refine NX.seq ?_
              refine WC.region ?_
              refine TL.yld rfl rfl (yld_add rfl rfl rfl) ?_
              refine TL.yld rfl rfl (yld_move rfl rfl) ?_
              refine TL.done ?_
              refine NX.then_n ?_
              intro a hK; exact ⟨m54, Nat.lt_succ_self m54, (IntKind.wrap IntKind.i64 (i49 + 1)), l51, hK.weaken ⟨rfl, rfl, rfl, rfl, rfl, rfl, trivial⟩, he75, (by omega), hs50, hs52, hs53, hF⟩
          · intro hc98
            replace hF := bif_f hc98 hF
            refine WC.exit' ?_
            refine NX.then_e ?_
            refine NX.then_e ?_
            refine NX.blk_hit ?_
            refine NX.seq ?_
            refine WC.seq ?_
            refine WC.region ?_
            refine TL.yld rfl rfl (yld_move rfl rfl) ?_
            refine TL.yld rfl rfl (yld_move rfl rfl) ?_
            refine TL.yld rfl rfl (yld_assign rfl rfl) ?_
            refine TL.yld rfl rfl (yld_assign rfl rfl) ?_
            refine TL.yld rfl rfl (yld_assign rfl rfl) ?_
            refine TL.done ?_
            refine NX.seq ?_
            refine WC.ret' ?_
            obtain rfl := Option.some.inj hF
            exact NX.end (rs := [.tmp 2, .tmp 3, .tmp 4]) (vs := [v24, v36, .int .i64 0]) rfl ⟨rfl, rfl, rfl, trivial⟩ ⟨_, rfl, _, _, rfl, ownR.base hs50 (by omega), ownR.base hs52 (by omega), (fun g q hg hq => by have := hbd39 g hg; have := hbd27 q hq; omega), he48⟩

-- loop.example/g00861/impl.LatchDepartures
def F_impl_LatchDepartures (n : Nat) (a0_s : S_LatchSystem) : Option ((List Int) × Int) := (Option.bind (F_impl_latchTimes n a0_s) fun r12 => (some (r12.1, r12.2.2)))
set_option maxHeartbeats 40000000 in
theorem W_impl_LatchDepartures {n : Nat} {a0_s : S_LatchSystem} {r : (List Int) × Int} {w : World} {v1 : Value} {v3 : Value} (hF : F_impl_LatchDepartures n a0_s = some r) (ha2 : slRep C_Latch w (Iv 0 w.heap.size) a0_s.Latches v1) (ha4 : slRep C_LatchLink w (Iv 0 w.heap.size) a0_s.Links v3) :
    Calls Try.prog 30 [.agg #[v1, v3]].toArray w (Ret fun u w2 => ∃ v0_0, u = .tuple #[v0_0, .int .i64 r.2] ∧ ownR (cInt .i64) w2 w.heap.size (Iv 0 0) 2 r.1 v0_0 ∧ Ext w w2) := by
  refine calls_of Try.func30 rfl Try.ntmps30 ?_
  have he0 : Ext w w := Ext.refl w
  unfold F_impl_LatchDepartures at hF
  refine WC.seq ?_
  refine WC.region ?_
  refine TL.eff rfl rfl (eff_box rfl rfl) ?_
  rintro _ w6 ⟨b5, rfl, hn7⟩
  obtain ⟨hn7e, hn7s, hn7x, hb8⟩ := hn7
  have hb8 : Box w6 b5 [v1, v3] 38 := hb8
  have he10 : Ext w w6 := Ext.trans he0 hn7x
  have hz11 := (hn7x).size
  have hlo9 : w.heap.size ≤ b5 := by rw [hn7e]; exact (he0).size
  refine TL.yld rfl rfl (yld_assign rfl rfl) ?_
  refine TL.yld rfl rfl (yld_assign rfl rfl) ?_
  refine TL.done ?_
  refine NX.seq ?_
  refine WC.seq ?_
  refine WC.region ?_
  refine TL.yld rfl rfl (yld_loadN (us := [v1, v3]) rfl ag_38 rfl (Box.cells hb8) cn_38) ?_
  obtain ⟨r12, hr13, hF⟩ := bsome hF
  refine TL.eff rfl rfl (eff_call rfl gf_66 rfl (W_impl_latchTimes hr13 ((slRep.old ha2 he10 (Nat.le_refl _)).wide (Nat.le_refl _) (he10).size) ((slRep.old ha4 he10 (Nat.le_refl _)).wide (Nat.le_refl _) (he10).size))) ?_
  rintro _ w14 ⟨v16, v20, rfl, hs17, hs21, hp24, hx15⟩
  have he25 : Ext w w14 := Ext.trans he10 hx15
  have hb8 := Box.ext hb8 hx15
  have hz26 := (hx15).size
  have hbd19 := ownR.blk hs17
  have hbd23 := ownR.blk hs21
  refine TL.yld rfl rfl (yld_move rfl rfl) ?_
  refine TL.yld rfl rfl (yld_extract rfl rfl rfl) ?_
  refine TL.yld rfl rfl (yld_extract rfl rfl rfl) ?_
  refine TL.yld rfl rfl (yld_extract rfl rfl rfl) ?_
  refine TL.yld rfl rfl (yld_assign rfl rfl) ?_
  refine TL.yld rfl rfl (yld_assign rfl rfl) ?_
  refine TL.yld rfl rfl (yld_assign rfl rfl) ?_
  refine TL.done ?_
  refine NX.seq ?_
  refine WC.seq ?_
  refine WC.region ?_
  refine TL.yld rfl rfl (yld_move rfl rfl) ?_
  refine TL.yld rfl rfl (yld_move rfl rfl) ?_
  refine TL.yld rfl rfl (yld_assign rfl rfl) ?_
  refine TL.yld rfl rfl (yld_assign rfl rfl) ?_
  refine TL.done ?_
  refine NX.seq ?_
  refine WC.ret' ?_
  obtain rfl := Option.some.inj hF
  exact NX.end (rs := [.tmp 2, .tmp 3]) (vs := [v16, .int .i64 r12.2.2]) rfl ⟨rfl, rfl, trivial⟩ ⟨_, rfl, _, rfl, ownR.base hs17 (by omega), he25⟩

-- loop.example/g00861/impl.areWithin$1
def F_impl_areWithin_1 (n : Nat) (a0_n : Int) (a1_c : Int) (a2_c : Int) : Option Bool := (Option.bind (F_impl_within n a0_n a1_c a2_c) fun r3 => (some (!r3)))
set_option maxHeartbeats 40000000 in
theorem W_impl_areWithin_1 {n : Nat} {a0_n : Int} {a1_c : Int} {a2_c : Int} {r : Bool} {w : World} {b1_ : Nat} {b2_ : Nat} (hF : F_impl_areWithin_1 n a0_n a1_c a2_c = some r) (hb1 : Box w b1_ [.int .i64 a1_c] 2) (hb2 : Box w b2_ [.int .i64 a2_c] 2) :
    Calls Try.prog 101 [.int .i64 a0_n, .pointer (some ⟨b1_, 0, none⟩), .pointer (some ⟨b2_, 0, none⟩)].toArray w (Ret fun u w2 => u = .bool r ∧ Ext w w2) := by
  refine calls_of Try.func101 rfl Try.ntmps101 ?_
  have he0 : Ext w w := Ext.refl w
  have := Box.lt hb1
  have := Box.lt hb2
  unfold F_impl_areWithin_1 at hF
  refine WC.seq ?_
  refine WC.region ?_
  refine TL.yld rfl rfl (yld_assign rfl rfl) ?_
  refine TL.done ?_
  refine NX.seq ?_
  refine WC.seq ?_
  refine WC.region ?_
  refine TL.yld rfl rfl (yld_move rfl rfl) ?_
  refine TL.yld rfl rfl (yld_load1 0 rfl ag_2 rfl (Box.cells hb1) rfl rfl) ?_
  refine TL.yld rfl rfl (yld_load1 0 rfl ag_2 rfl (Box.cells hb2) rfl rfl) ?_
  obtain ⟨r3, hr4, hF⟩ := bsome hF
  refine TL.eff rfl rfl (eff_call rfl gf_61 rfl (W_impl_within hr4)) ?_
  rintro _ w5 ⟨rfl, hx6⟩
  have he7 : Ext w w5 := Ext.trans he0 hx6
  have hb1 := Box.ext hb1 hx6
  have hb2 := Box.ext hb2 hx6
  have hz8 := (hx6).size
  refine TL.yld rfl rfl (yld_not rfl rfl) ?_
  refine TL.yld rfl rfl (yld_assign rfl rfl) ?_
  refine TL.done ?_
  refine NX.seq ?_
  refine WC.ret' ?_
  obtain rfl := Option.some.inj hF
  exact NX.end (rs := [.tmp 4]) (vs := [.bool (!r3)]) rfl ⟨rfl, trivial⟩ ⟨_, rfl, rfl, he7⟩

-- slices.IndexFunc[[]int64,int64]
def F_slices_IndexFunc_int64_int64_on_impl_areWithin_1_L1 (n : Nat) (a0_s : List Int) (a1c0_c : Int) (a1c1_c : Int) (k0 : Int → Option Int) : Nat → Int → Option Int
  | 0 => fun _ => none
  | m + 1 => fun i7 => (bif decide (i7 < (a0_s.length : Int)) then (Option.bind (getI a0_s i7) fun x11 => (Option.bind (F_impl_areWithin_1 n x11 a1c0_c a1c1_c) fun r19 => (bif r19 then (some i7) else (F_slices_IndexFunc_int64_int64_on_impl_areWithin_1_L1 n a0_s a1c0_c a1c1_c k0 m (IntKind.wrap IntKind.i64 (i7 + 1)))))) else (k0 i7))
theorem F_slices_IndexFunc_int64_int64_on_impl_areWithin_1_L1_z (n : Nat) (a0_s : List Int) (a1c0_c : Int) (a1c1_c : Int) (k0 : Int → Option Int) (i7 : Int) : F_slices_IndexFunc_int64_int64_on_impl_areWithin_1_L1 n a0_s a1c0_c a1c1_c k0 0 i7 = none := rfl
theorem F_slices_IndexFunc_int64_int64_on_impl_areWithin_1_L1_s (m : Nat) (n : Nat) (a0_s : List Int) (a1c0_c : Int) (a1c1_c : Int) (k0 : Int → Option Int) (i7 : Int) : F_slices_IndexFunc_int64_int64_on_impl_areWithin_1_L1 n a0_s a1c0_c a1c1_c k0 (m + 1) i7 = (bif decide (i7 < (a0_s.length : Int)) then (Option.bind (getI a0_s i7) fun x11 => (Option.bind (F_impl_areWithin_1 n x11 a1c0_c a1c1_c) fun r19 => (bif r19 then (some i7) else (F_slices_IndexFunc_int64_int64_on_impl_areWithin_1_L1 n a0_s a1c0_c a1c1_c k0 m (IntKind.wrap IntKind.i64 (i7 + 1)))))) else (k0 i7)) := rfl

def F_slices_IndexFunc_int64_int64_on_impl_areWithin_1 (n : Nat) (a0_s : List Int) (a1c0_c : Int) (a1c1_c : Int) : Option Int := (F_slices_IndexFunc_int64_int64_on_impl_areWithin_1_L1 n a0_s a1c0_c a1c1_c (fun i7 => (some (-1))) n 0)
set_option maxHeartbeats 40000000 in
theorem W_slices_IndexFunc_int64_int64_on_impl_areWithin_1 {n : Nat} {a0_s : List Int} {a1c0_c : Int} {a1c1_c : Int} {r : Int} {w : World} {v1 : Value} {b1c0_ : Nat} {b1c1_ : Nat} (hF : F_slices_IndexFunc_int64_int64_on_impl_areWithin_1 n a0_s a1c0_c a1c1_c = some r) (ha2 : slRep (cInt .i64) w (Iv 0 w.heap.size) a0_s v1) (hb3 : Box w b1c0_ [.int .i64 a1c0_c] 2) (hb4 : Box w b1c1_ [.int .i64 a1c1_c] 2) :
    Calls Try.prog 109 [v1, .func (.func 101) #[] [.pointer (some ⟨b1c0_, 0, none⟩), .pointer (some ⟨b1c1_, 0, none⟩)].toArray].toArray w (Ret fun u w2 => u = .int .i64 r ∧ Ext w w2) := by
  refine calls_of Try.func109 rfl Try.ntmps109 ?_
  have he0 : Ext w w := Ext.refl w
  have := Box.lt hb3
  have := Box.lt hb4
  unfold F_slices_IndexFunc_int64_int64_on_impl_areWithin_1 at hF
  refine WC.seq ?_
  refine WC.region ?_
  refine TL.yld rfl rfl (yld_assign rfl rfl) ?_
  refine TL.done ?_
  refine NX.seq ?_
  refine WC.seq ?_
  refine WC.seq ?_
  refine WC.region ?_
  refine TL.yld rfl rfl (yld_move rfl rfl) ?_
  refine TL.yld rfl rfl (ye_len (c := (cInt .i64)) rfl Try.underlying45 rfl (slRep.old ha2 he0 (Nat.le_refl _))) ?_
  refine TL.yld rfl rfl (yld_move rfl rfl) ?_
  refine TL.done ?_
  refine NX.seq ?_
  refine WC.block ?_
  refine WC.loop (fun m10 a wl => ∃ (i7 : Int), Kn 19 [(0, v1), (1, .func (.func 101) #[] [.pointer (some ⟨b1c0_, 0, none⟩), .pointer (some ⟨b1c1_, 0, none⟩)].toArray), (7, .int .i64 ((a0_s.length : Int))), (8, .int .i64 i7)] a ∧ Ext w wl ∧ w.heap.size ≤ wl.heap.size ∧ Box wl b1c0_ [.int .i64 a1c0_c] 2 ∧ Box wl b1c1_ [.int .i64 a1c1_c] 2 ∧ F_slices_IndexFunc_int64_int64_on_impl_areWithin_1_L1 n a0_s a1c0_c a1c1_c (fun i7 => (some (-1))) m10 i7 = some r) n ?_ ?_
  · intro a hK; exact ⟨0, hK.weaken ⟨rfl, rfl, rfl, rfl, trivial⟩, he0, Nat.le_refl _, hb3, hb4, hF⟩
  · rintro m10 a w5 ⟨i7, hK, he6, hz11, hb8, hb9, hF⟩
    revert hK; revert a; refine (?_ : WC _ _ _ _ _ _)
    cases m10 with
    | zero => rw [F_slices_IndexFunc_int64_int64_on_impl_areWithin_1_L1_z] at hF; cases hF
    | succ m10 =>
      rw [F_slices_IndexFunc_int64_int64_on_impl_areWithin_1_L1_s] at hF
      refine WC.seq ?_
      refine WC.region ?_
      refine TL.yld rfl rfl (yld_lss rfl rfl rfl) ?_
      refine TL.done ?_
      refine NX.seq ?_
      refine WC.seq ?_
      refine WC.cond rfl ?_ ?_
      · intro hc12
        replace hF := bif_t hc12 hF
        refine WC.skip' ?_
        refine NX.seq ?_
        refine WC.seq ?_
        refine WC.block ?_
        refine WC.seq ?_
        refine WC.region ?_
        refine TL.yld rfl rfl (yld_move rfl rfl) ?_
        refine TL.yld rfl rfl (yld_assign rfl rfl) ?_
        refine TL.done ?_
        refine NX.seq ?_
        refine WC.seq ?_
        refine WC.region ?_
        refine TL.yld rfl rfl (yld_move rfl rfl) ?_
        refine TL.yld rfl rfl (yld_move rfl rfl) ?_
        refine TL.yld rfl rfl (yld_move rfl rfl) ?_
        obtain ⟨x13, hy14, hF⟩ := bsome hF
        refine TL.ye rfl rfl (ye_index (c := (cInt .i64)) rfl Try.underlying45 cn_2 rfl rfl (slRep.old ha2 he6 (Nat.le_refl _)) hy14) ?_
        rintro _ ⟨b15, o16, us17, rfl, hib20, hr18, hcl19⟩
        have hib20 : 0 ≤ b15 ∧ b15 < w.heap.size := ⟨hib20.1, by have := hib20.2; omega⟩
        obtain rfl := hr18
        refine TL.yld rfl rfl (yld_load1 0 rfl ag_2 rfl hcl19 rfl rfl) ?_
        obtain ⟨r21, hr22, hF⟩ := bsome hF
        refine TL.eff rfl rfl (eff_callv rfl gf_101 rfl rfl (W_impl_areWithin_1 hr22 hb8 hb9)) ?_
        rintro _ w23 ⟨rfl, hx24⟩
        have he25 : Ext w w23 := Ext.trans he6 hx24
        have hb8 := Box.ext hb8 hx24
        have hb9 := Box.ext hb9 hx24
        have hz26 := (hx24).size
        refine TL.done ?_
        refine NX.seq ?_
        refine WC.cond rfl ?_ ?_
        · intro hc27
          replace hF := bif_t hc27 hF
          refine WC.seq ?_
          refine WC.region ?_
          refine TL.yld rfl rfl (yld_move rfl rfl) ?_
          refine TL.yld rfl rfl (yld_assign rfl rfl) ?_
          refine TL.done ?_
          refine NX.seq ?_
          refine WC.ret' ?_
          refine NX.blk_r ?_
          refine NX.then_r ?_
          refine NX.then_r ?_
          refine NX.blk_r ?_
          refine NX.then_r ?_
          obtain rfl := Option.some.inj hF
          exact NX.end (rs := [.tmp 4]) (vs := [.int .i64 i7]) rfl ⟨rfl, trivial⟩ ⟨_, rfl, rfl, he25⟩
        · intro hc28
          replace hF := bif_f hc28 hF
          refine WC.skip' ?_
          refine NX.blk_n ?_
          refine NX.seq ?_
          refine WC.region ?_
          refine TL.yld rfl rfl (yld_add rfl rfl rfl) ?_
          refine TL.yld rfl rfl (yld_move rfl rfl) ?_
          refine TL.done ?_
          refine NX.then_n ?_
          intro a hK; exact ⟨m10, Nat.lt_succ_self m10, (IntKind.wrap IntKind.i64 (i7 + 1)), hK.weaken ⟨rfl, rfl, rfl, rfl, trivial⟩, he25, (by omega), hb8, hb9, hF⟩
      · intro hc29
        replace hF := bif_f hc29 hF
        refine WC.exit' ?_
        refine NX.then_e ?_
        refine NX.then_e ?_
        refine NX.blk_hit ?_
        refine NX.seq ?_
        refine WC.seq ?_
        refine WC.region ?_
        refine TL.yld rfl rfl (yld_assign rfl rfl) ?_
        refine TL.done ?_
        refine NX.seq ?_
        refine WC.ret' ?_
        obtain rfl := Option.some.inj hF
        exact NX.end (rs := [.tmp 4]) (vs := [.int .i64 (-1)]) rfl ⟨rfl, trivial⟩ ⟨_, rfl, rfl, he6⟩

-- slices.ContainsFunc[[]int64,int64]
def F_slices_ContainsFunc_int64_int64_on_impl_areWithin_1 (n : Nat) (a0_s : List Int) (a1c0_c : Int) (a1c1_c : Int) : Option Bool := (Option.bind (F_slices_IndexFunc_int64_int64_on_impl_areWithin_1 n a0_s a1c0_c a1c1_c) fun r5 => (some (decide (r5 ≥ 0))))
set_option maxHeartbeats 40000000 in
theorem W_slices_ContainsFunc_int64_int64_on_impl_areWithin_1 {n : Nat} {a0_s : List Int} {a1c0_c : Int} {a1c1_c : Int} {r : Bool} {w : World} {v1 : Value} {b1c0_ : Nat} {b1c1_ : Nat} (hF : F_slices_ContainsFunc_int64_int64_on_impl_areWithin_1 n a0_s a1c0_c a1c1_c = some r) (ha2 : slRep (cInt .i64) w (Iv 0 w.heap.size) a0_s v1) (hb3 : Box w b1c0_ [.int .i64 a1c0_c] 2) (hb4 : Box w b1c1_ [.int .i64 a1c1_c] 2) :
    Calls Try.prog 100 [v1, .func (.func 101) #[] [.pointer (some ⟨b1c0_, 0, none⟩), .pointer (some ⟨b1c1_, 0, none⟩)].toArray].toArray w (Ret fun u w2 => u = .bool r ∧ Ext w w2) := by
  refine calls_of Try.func100 rfl Try.ntmps100 ?_
  have he0 : Ext w w := Ext.refl w
  have := Box.lt hb3
  have := Box.lt hb4
  unfold F_slices_ContainsFunc_int64_int64_on_impl_areWithin_1 at hF
  refine WC.seq ?_
  refine WC.region ?_
  refine TL.yld rfl rfl (yld_assign rfl rfl) ?_
  refine TL.done ?_
  refine NX.seq ?_
  refine WC.seq ?_
  refine WC.region ?_
  refine TL.yld rfl rfl (yld_move rfl rfl) ?_
  refine TL.yld rfl rfl (yld_move rfl rfl) ?_
  obtain ⟨r5, hr6, hF⟩ := bsome hF
  refine TL.eff rfl rfl (eff_call rfl gf_109 rfl (W_slices_IndexFunc_int64_int64_on_impl_areWithin_1 hr6 ((slRep.old ha2 he0 (Nat.le_refl _)).wide (Nat.le_refl _) (he0).size) hb3 hb4)) ?_
  rintro _ w7 ⟨rfl, hx8⟩
  have he9 : Ext w w7 := Ext.trans he0 hx8
  have hb3 := Box.ext hb3 hx8
  have hb4 := Box.ext hb4 hx8
  have hz10 := (hx8).size
  refine TL.yld rfl rfl (yld_geq rfl rfl rfl) ?_
  refine TL.yld rfl rfl (yld_assign rfl rfl) ?_
  refine TL.done ?_
  refine NX.seq ?_
  refine WC.ret' ?_
  obtain rfl := Option.some.inj hF
  exact NX.end (rs := [.tmp 4]) (vs := [.bool (decide (r5 ≥ 0))]) rfl ⟨rfl, trivial⟩ ⟨_, rfl, rfl, he9⟩

-- loop.example/g00861/impl.areWithin
def F_impl_areWithin (n : Nat) (a0_list : List Int) (a1_low : Int) (a2_high : Int) : Option Bool := (Option.bind (F_slices_ContainsFunc_int64_int64_on_impl_areWithin_1 n a0_list a1_low a2_high) fun r17 => (some (!r17)))
set_option maxHeartbeats 40000000 in
theorem W_impl_areWithin {n : Nat} {a0_list : List Int} {a1_low : Int} {a2_high : Int} {r : Bool} {w : World} {v1 : Value} (hF : F_impl_areWithin n a0_list a1_low a2_high = some r) (ha2 : slRep (cInt .i64) w (Iv 0 w.heap.size) a0_list v1) :
    Calls Try.prog 77 [v1, .int .i64 a1_low, .int .i64 a2_high].toArray w (Ret fun u w2 => u = .bool r ∧ Ext w w2) := by
  refine calls_of Try.func77 rfl Try.ntmps77 ?_
  have he0 : Ext w w := Ext.refl w
  unfold F_impl_areWithin at hF
  refine WC.seq ?_
  refine WC.region ?_
  refine TL.eff rfl rfl (eff_box rfl rfl) ?_
  rintro _ w4 ⟨b3, rfl, hn5⟩
  obtain ⟨hn5e, hn5s, hn5x, hb6⟩ := hn5
  have hb6 : Box w4 b3 [.int .i64 a1_low] 2 := hb6
  have he8 : Ext w w4 := Ext.trans he0 hn5x
  have hz9 := (hn5x).size
  have hlo7 : w.heap.size ≤ b3 := by rw [hn5e]; exact (he0).size
  refine TL.eff rfl rfl (eff_box rfl rfl) ?_
  rintro _ w11 ⟨b10, rfl, hn12⟩
  obtain ⟨hn12e, hn12s, hn12x, hb13⟩ := hn12
  have hb13 : Box w11 b10 [.int .i64 a2_high] 2 := hb13
  have he15 : Ext w w11 := Ext.trans he8 hn12x
  have hb6 := Box.ext hb6 hn12x
  have hz16 := (hn12x).size
  have hlo14 : w.heap.size ≤ b10 := by rw [hn12e]; exact (he8).size
  refine TL.yld rfl rfl (yld_assign rfl rfl) ?_
  refine TL.done ?_
  refine NX.seq ?_
  refine WC.seq ?_
  refine WC.region ?_
  refine TL.yld rfl rfl (yld_move rfl rfl) ?_
  refine TL.yld rfl rfl (yld_makeFunc rfl rfl rfl) ?_
  obtain ⟨r17, hr18, hF⟩ := bsome hF
  refine TL.eff rfl rfl (eff_call rfl gf_100 rfl (W_slices_ContainsFunc_int64_int64_on_impl_areWithin_1 hr18 ((slRep.old ha2 he15 (Nat.le_refl _)).wide (Nat.le_refl _) (he15).size) hb6 hb13)) ?_
  rintro _ w19 ⟨rfl, hx20⟩
  have he21 : Ext w w19 := Ext.trans he15 hx20
  have hb6 := Box.ext hb6 hx20
  have hb13 := Box.ext hb13 hx20
  have hz22 := (hx20).size
  refine TL.yld rfl rfl (yld_not rfl rfl) ?_
  refine TL.yld rfl rfl (yld_assign rfl rfl) ?_
  refine TL.done ?_
  refine NX.seq ?_
  refine WC.ret' ?_
  obtain rfl := Option.some.inj hF
  exact NX.end (rs := [.tmp 6]) (vs := [.bool (!r17)]) rfl ⟨rfl, trivial⟩ ⟨_, rfl, rfl, he21⟩

-- loop.example/g00861/impl.IsDeparture
def F_impl_IsDeparture_L1 (a0_s : S_LatchSystem) (a1_times : List Int) (r40 : (List Int) × (List Bool)) (k0 : Int → Option Bool) : Nat → Int → Option Bool
  | 0 => fun _ => none
  | m + 1 => fun i57 => (bif decide (i57 < (a0_s.Latches.length : Int)) then (Option.bind (getI a0_s.Latches i57) fun x61 => (Option.bind (getI r40.2 i57) fun x81 => (bif x81 then (Option.bind (getI r40.1 i57) fun x89 => (Option.bind (getI a1_times i57) fun x96 => (bif (x96 != (max x61.Open x89)) then (some false) else (F_impl_IsDeparture_L1 a0_s a1_times r40 k0 m (IntKind.wrap IntKind.i64 (i57 + 1)))))) else (Option.bind (getI a1_times i57) fun x107 => (bif (x107 != x61.Open) then (some false) else (F_impl_IsDeparture_L1 a0_s a1_times r40 k0 m (IntKind.wrap IntKind.i64 (i57 + 1)))))))) else (k0 i57))
theorem F_impl_IsDeparture_L1_z (a0_s : S_LatchSystem) (a1_times : List Int) (r40 : (List Int) × (List Bool)) (k0 : Int → Option Bool) (i57 : Int) : F_impl_IsDeparture_L1 a0_s a1_times r40 k0 0 i57 = none := rfl
theorem F_impl_IsDeparture_L1_s (m : Nat) (a0_s : S_LatchSystem) (a1_times : List Int) (r40 : (List Int) × (List Bool)) (k0 : Int → Option Bool) (i57 : Int) : F_impl_IsDeparture_L1 a0_s a1_times r40 k0 (m + 1) i57 = (bif decide (i57 < (a0_s.Latches.length : Int)) then (Option.bind (getI a0_s.Latches i57) fun x61 => (Option.bind (getI r40.2 i57) fun x81 => (bif x81 then (Option.bind (getI r40.1 i57) fun x89 => (Option.bind (getI a1_times i57) fun x96 => (bif (x96 != (max x61.Open x89)) then (some false) else (F_impl_IsDeparture_L1 a0_s a1_times r40 k0 m (IntKind.wrap IntKind.i64 (i57 + 1)))))) else (Option.bind (getI a1_times i57) fun x107 => (bif (x107 != x61.Open) then (some false) else (F_impl_IsDeparture_L1 a0_s a1_times r40 k0 m (IntKind.wrap IntKind.i64 (i57 + 1)))))))) else (k0 i57)) := rfl

def F_impl_IsDeparture (n : Nat) (a0_s : S_LatchSystem) (a1_times : List Int) : Option Bool := (Option.bind (F_impl_IsLatchSystem n a0_s) fun r14 => (Option.bind (bif ((!r14) || ((((a1_times.length : Int)) != ((a0_s.Latches.length : Int))))) then (some true) else (Option.bind (F_impl_areWithin n a1_times 0 1000000000) fun r25 => (some (!r25)))) fun c25 => (bif c25 then (some false) else (Option.bind (F_impl_LatchSystem_arrivals n a0_s a1_times) fun r40 => (F_impl_IsDeparture_L1 a0_s a1_times r40 (fun i57 => (some true)) n 0)))))
set_option maxHeartbeats 40000000 in
theorem W_impl_IsDeparture {n : Nat} {a0_s : S_LatchSystem} {a1_times : List Int} {r : Bool} {w : World} {v1 : Value} {v3 : Value} {v5 : Value} (hF : F_impl_IsDeparture n a0_s a1_times = some r) (ha2 : slRep C_Latch w (Iv 0 w.heap.size) a0_s.Latches v1) (ha4 : slRep C_LatchLink w (Iv 0 w.heap.size) a0_s.Links v3) (ha6 : slRep (cInt .i64) w (Iv 0 w.heap.size) a1_times v5) :
    Calls Try.prog 35 [.agg #[v1, v3], v5].toArray w (Ret fun u w2 => u = .bool r ∧ Ext w w2) := by
  refine calls_of Try.func35 rfl Try.ntmps35 ?_
  have he0 : Ext w w := Ext.refl w
  unfold F_impl_IsDeparture at hF
  refine WC.seq ?_
  refine WC.region ?_
  refine TL.eff rfl rfl (eff_box rfl rfl) ?_
  rintro _ w8 ⟨b7, rfl, hn9⟩
  obtain ⟨hn9e, hn9s, hn9x, hb10⟩ := hn9
  have hb10 : Box w8 b7 [v1, v3] 38 := hb10
  have he12 : Ext w w8 := Ext.trans he0 hn9x
  have hz13 := (hn9x).size
  have hlo11 : w.heap.size ≤ b7 := by rw [hn9e]; exact (he0).size
  refine TL.yld rfl rfl (yld_assign rfl rfl) ?_
  refine TL.done ?_
  refine NX.seq ?_
  refine WC.seq ?_
  refine WC.seq ?_
  refine WC.region ?_
  refine TL.yld rfl rfl (yld_loadN (us := [v1, v3]) rfl ag_38 rfl (Box.cells hb10) cn_38) ?_
  obtain ⟨r14, hr15, hF⟩ := bsome hF
  refine TL.eff rfl rfl (eff_call rfl gf_21 rfl (W_impl_IsLatchSystem hr15 ((slRep.old ha2 he12 (Nat.le_refl _)).wide (Nat.le_refl _) (he12).size) ((slRep.old ha4 he12 (Nat.le_refl _)).wide (Nat.le_refl _) (he12).size))) ?_
  rintro _ w16 ⟨rfl, hx17⟩
  have he18 : Ext w w16 := Ext.trans he12 hx17
  have hb10 := Box.ext hb10 hx17
  have hz19 := (hx17).size
  refine TL.yld rfl rfl (yld_not rfl rfl) ?_
  refine TL.yld rfl rfl (yld_move rfl rfl) ?_
  refine TL.cut 7 [(1, v5), (2, .pointer (some ⟨b7, 0, none⟩)), (20, .bool (((!r14) || ((((a1_times.length : Int)) != ((a0_s.Latches.length : Int)))))))] (fun w' => Ext w16 w') ?_ ?_
  · rcases Bool.eq_false_or_eq_true (!r14) with hg20 | hg20
    ·
      refine TL.gnu (j := 3) (t := 13) rfl rfl rfl hg20 rfl ?_
      refine TL.gnu (j := 3) (t := 13) rfl rfl rfl hg20 rfl ?_
      refine TL.gnu (j := 3) (t := 13) rfl rfl rfl hg20 rfl ?_
      refine TL.gnu (j := 3) (t := 13) rfl rfl rfl hg20 rfl ?_
      refine TL.gnu (j := 3) (t := 13) rfl rfl rfl hg20 rfl ?_
      refine TL.gnu (j := 3) (t := 13) rfl rfl rfl hg20 rfl ?_
      refine TL.yld rfl rfl (yld_or_t (b2 := (((a1_times.length : Int)) != ((a0_s.Latches.length : Int)))) rfl rfl hg20 rfl) ?_
      exact TL.nil fun a h => ⟨h.weaken ⟨rfl, rfl, rfl, trivial⟩, Ext.refl _⟩
    ·
      refine TL.gy (j := 3) (t := 13) rfl rfl rfl hg20 rfl (yld_move rfl rfl) ?_
      refine TL.gy (j := 3) (t := 13) rfl rfl rfl hg20 rfl (ye_len (c := (cInt .i64)) rfl Try.underlying45 rfl (slRep.old ha6 he18 (Nat.le_refl _))) ?_
      refine TL.gy (j := 3) (t := 13) rfl rfl rfl hg20 rfl (yld_fieldAddr rfl fo_38_0 rfl) ?_
      refine TL.gy (j := 3) (t := 13) rfl rfl rfl hg20 rfl (yld_load1 0 rfl ag_35 rfl (Box.cells hb10) rfl rfl) ?_
      refine TL.gy (j := 3) (t := 13) rfl rfl rfl hg20 rfl (ye_len (c := C_Latch) rfl Try.underlying35 rfl (slRep.old ha2 he18 (Nat.le_refl _))) ?_
      refine TL.gy (j := 3) (t := 13) rfl rfl rfl hg20 rfl (yld_neq rfl rfl rfl) ?_
      refine TL.yld rfl rfl (yld_or_f rfl rfl hg20 rfl) ?_
      exact TL.nil fun a h => ⟨h.weaken ⟨rfl, rfl, rfl, trivial⟩, Ext.refl _⟩
  intro w21 hx22
  have he23 : Ext w w21 := Ext.trans he18 hx22
  have hb10 := Box.ext hb10 hx22
  have hz24 := (hx22).size
  refine TL.yld rfl rfl (yld_move rfl rfl) ?_
  obtain ⟨c25, hb26, hF⟩ := bsome hF
  refine TL.cut 4 [(1, v5), (2, .pointer (some ⟨b7, 0, none⟩)), (25, .bool c25)] (fun w' => Ext w21 w') ?_ ?_
  · rcases Bool.eq_false_or_eq_true (((!r14) || ((((a1_times.length : Int)) != ((a0_s.Latches.length : Int)))))) with hg27 | hg27
    ·
      rw [hg27] at hb26; simp only [cond_true, cond_false] at hb26
      refine TL.gnu (j := 11) (t := 21) rfl rfl rfl hg27 rfl ?_
      refine TL.gnu (j := 11) (t := 21) rfl rfl rfl hg27 rfl ?_
      refine TL.gnu (j := 11) (t := 21) rfl rfl rfl hg27 rfl ?_
      obtain rfl := Option.some.inj hb26
      refine TL.yld rfl rfl (yld_pick_t rfl rfl hg27 rfl) ?_
      exact TL.nil fun a h => ⟨h.weaken ⟨rfl, rfl, rfl, trivial⟩, Ext.refl _⟩
    ·
      rw [hg27] at hb26; simp only [cond_true, cond_false] at hb26
      replace hF := hb26
      refine TL.gy (j := 11) (t := 21) rfl rfl rfl hg27 rfl (yld_move rfl rfl) ?_
      obtain ⟨r28, hr29, hF⟩ := bsome hF
      refine TL.ge (j := 11) (t := 21) rfl rfl rfl hg27 rfl (eff_call rfl gf_77 rfl (W_impl_areWithin hr29 ((slRep.old ha6 he23 (Nat.le_refl _)).wide (Nat.le_refl _) (he23).size))) ?_
      rintro _ w30 ⟨rfl, hx31⟩
      have he32 : Ext w w30 := Ext.trans he23 hx31
      have hb10 := Box.ext hb10 hx31
      have hz33 := (hx31).size
      refine TL.gy (j := 11) (t := 21) rfl rfl rfl hg27 rfl (yld_not rfl rfl) ?_
      obtain rfl := Option.some.inj hF
      refine TL.yld rfl rfl (yld_pick_f rfl rfl hg27 rfl) ?_
      exact TL.nil fun a h => ⟨h.weaken ⟨rfl, rfl, rfl, trivial⟩, hx31⟩
  intro w34 hx35
  have he36 : Ext w w34 := Ext.trans he23 hx35
  have hb10 := Box.ext hb10 hx35
  have hz37 := (hx35).size
  refine TL.done ?_
  refine NX.seq ?_
  refine WC.cond rfl ?_ ?_
  · intro hc38
    replace hF := bif_t hc38 hF
    refine WC.seq ?_
    refine WC.region ?_
    refine TL.yld rfl rfl (yld_assign rfl rfl) ?_
    refine TL.done ?_
    refine NX.seq ?_
    refine WC.ret' ?_
    refine NX.then_r ?_
    obtain rfl := Option.some.inj hF
    exact NX.end (rs := [.tmp 4]) (vs := [.bool false]) rfl ⟨rfl, trivial⟩ ⟨_, rfl, rfl, he36⟩
  · intro hc39
    replace hF := bif_f hc39 hF
    refine WC.skip' ?_
    refine NX.seq ?_
    refine WC.seq ?_
    refine WC.region ?_
    refine TL.yld rfl rfl (yld_loadN (us := [v1, v3]) rfl ag_38 rfl (Box.cells hb10) cn_38) ?_
    refine TL.yld rfl rfl (yld_move rfl rfl) ?_
    obtain ⟨r40, hr41, hF⟩ := bsome hF
    refine TL.eff rfl rfl (eff_call rfl gf_78 rfl (W_impl_LatchSystem_arrivals hr41 ((slRep.old ha2 he36 (Nat.le_refl _)).wide (Nat.le_refl _) (he36).size) ((slRep.old ha4 he36 (Nat.le_refl _)).wide (Nat.le_refl _) (he36).size) ((slRep.old ha6 he36 (Nat.le_refl _)).wide (Nat.le_refl _) (he36).size))) ?_
    rintro _ w42 ⟨v44, v48, rfl, hs45, hs49, hp52, hx43⟩
    have he53 : Ext w w42 := Ext.trans he36 hx43
    have hb10 := Box.ext hb10 hx43
    have hz54 := (hx43).size
    have hbd47 := ownR.blk hs45
    have hbd51 := ownR.blk hs49
    refine TL.yld rfl rfl (yld_move rfl rfl) ?_
    refine TL.yld rfl rfl (yld_extract rfl rfl rfl) ?_
    refine TL.yld rfl rfl (yld_extract rfl rfl rfl) ?_
    refine TL.yld rfl rfl (yld_assign rfl rfl) ?_
    refine TL.yld rfl rfl (yld_assign rfl rfl) ?_
    refine TL.done ?_
    refine NX.seq ?_
    refine WC.seq ?_
    refine WC.seq ?_
    refine WC.region ?_
    refine TL.yld rfl rfl (yld_fieldAddr rfl fo_38_0 rfl) ?_
    refine TL.yld rfl rfl (yld_load1 0 rfl ag_35 rfl (Box.cells hb10) rfl rfl) ?_
    refine TL.yld rfl rfl (ye_len (c := C_Latch) rfl Try.underlying35 rfl (slRep.old ha2 he53 (Nat.le_refl _))) ?_
    refine TL.yld rfl rfl (yld_move rfl rfl) ?_
    refine TL.done ?_
    refine NX.seq ?_
    refine WC.block ?_
    refine WC.loop (fun m60 a wl => ∃ (i57 : Int), Kn 59 [(1, v5), (5, v44), (6, v48), (33, v1), (34, .int .i64 ((a0_s.Latches.length : Int))), (35, .int .i64 i57)] a ∧ Ext w wl ∧ w42.heap.size ≤ wl.heap.size ∧ ownR (cInt .i64) wl (w34.heap.size) (Iv 0 0) 2 r40.1 v44 ∧ ownR cBool wl (w34.heap.size) (Iv 0 0) 4 r40.2 v48 ∧ F_impl_IsDeparture_L1 a0_s a1_times r40 (fun i57 => (some true)) m60 i57 = some r) n ?_ ?_
    · intro a hK; exact ⟨0, hK.weaken ⟨rfl, rfl, rfl, rfl, rfl, rfl, trivial⟩, he53, Nat.le_refl _, hs45, hs49, hF⟩
    · rintro m60 a w55 ⟨i57, hK, he56, hz61, hs58, hs59, hF⟩
      revert hK; revert a; refine (?_ : WC _ _ _ _ _ _)
      cases m60 with
      | zero => rw [F_impl_IsDeparture_L1_z] at hF; cases hF
      | succ m60 =>
        rw [F_impl_IsDeparture_L1_s] at hF
        refine WC.seq ?_
        refine WC.region ?_
        refine TL.yld rfl rfl (yld_lss rfl rfl rfl) ?_
        refine TL.done ?_
        refine NX.seq ?_
        refine WC.seq ?_
        refine WC.cond rfl ?_ ?_
        · intro hc62
          replace hF := bif_t hc62 hF
          refine WC.skip' ?_
          refine NX.seq ?_
          refine WC.seq ?_
          refine WC.block ?_
          refine WC.seq ?_
          refine WC.region ?_
          refine TL.yld rfl rfl (yld_move rfl rfl) ?_
          obtain ⟨x63, hy64, hF⟩ := bsome hF
          refine TL.ye rfl rfl (ye_index (c := C_Latch) rfl Try.underlying35 cn_50 rfl rfl (slRep.old ha2 he56 (Nat.le_refl _)) hy64) ?_
          rintro _ ⟨b65, o66, us67, rfl, hib70, hr68, hcl69⟩
          have hib70 : 0 ≤ b65 ∧ b65 < w.heap.size := ⟨hib70.1, by have := hib70.2; omega⟩
          obtain rfl := C_Latch_open hr68
          refine TL.yld rfl rfl (yld_loadN (us := [.int .i64 x63.Open, .int .i64 x63.Close]) rfl ag_50 rfl hcl69 cn_50) ?_
          refine TL.eff rfl rfl (eff_alloc rfl zn_50) ?_
          rintro _ w72 ⟨b71, rfl, hn73⟩
          obtain ⟨hn73e, hn73s, hn73x, hb74⟩ := hn73
          have hb74 : Box w72 b71 [.int .i64 0, .int .i64 0] 50 := hb74
          have he76 : Ext w w72 := Ext.trans he56 hn73x
          have hs58 := ownR.ext hs58 hn73x
          have hs59 := ownR.ext hs59 hn73x
          have hz77 := (hn73x).size
          have hlo75 : w.heap.size ≤ b71 := by rw [hn73e]; exact (he56).size
          refine TL.yld rfl rfl (yld_assign rfl rfl) ?_
          refine TL.eff rfl rfl (eff_store rfl rfl rfl hb74 cn_50 rfl rfl) ?_
          rintro _ w78 ⟨hu79, hb80⟩
          have he81 : Ext w w78 := Below.trans he76 (Upd.below hu79 (by omega))
          have hs58 := ownR.upd hs58 hu79 (fun g hg => by have := hbd47 g hg; omega)
          have hs59 := ownR.upd hs59 hu79 (fun g hg => by have := hbd51 g hg; omega)
          have hz82 := (hu79).size
          have hb74 : Box w78 b71 [.int .i64 x63.Open, .int .i64 x63.Close] 50 := hb80
          refine TL.done ?_
          refine NX.seq ?_
          refine WC.seq ?_
          refine WC.region ?_
          refine TL.yld rfl rfl (yld_fieldAddr rfl fo_50_0 rfl) ?_
          refine TL.yld rfl rfl (yld_load1 0 rfl ag_2 rfl (Box.cells hb74) rfl rfl) ?_
          refine TL.yld rfl rfl (yld_assign rfl rfl) ?_
          refine TL.done ?_
          refine NX.seq ?_
          refine WC.seq ?_
          refine WC.seq ?_
          refine WC.region ?_
          refine TL.yld rfl rfl (yld_move rfl rfl) ?_
          refine TL.yld rfl rfl (yld_move rfl rfl) ?_
          obtain ⟨x83, hy84, hF⟩ := bsome hF
          refine TL.ye rfl rfl (ye_index_own (c := cBool) rfl Try.underlying95 cn_4 rfl rfl hs59 hy84) ?_
          rintro _ ⟨g85, us87, rfl, hg86, hr88, hcl89⟩
          have hr88r := hr88
          obtain rfl := hr88
          refine TL.yld rfl rfl (yld_load1 0 rfl ag_4 rfl hcl89 rfl rfl) ?_
          refine TL.done ?_
          refine NX.seq ?_
          refine WC.cond rfl ?_ ?_
          · intro hc90
            replace hF := bif_t hc90 hF
            refine WC.region ?_
            refine TL.yld rfl rfl (yld_move rfl rfl) ?_
            refine TL.yld rfl rfl (yld_move rfl rfl) ?_
            refine TL.yld rfl rfl (yld_move rfl rfl) ?_
            obtain ⟨x91, hy92, hF⟩ := bsome hF
            refine TL.ye rfl rfl (ye_index_own (c := (cInt .i64)) rfl Try.underlying45 cn_2 rfl rfl hs58 hy92) ?_
            rintro _ ⟨g93, us95, rfl, hg94, hr96, hcl97⟩
            have hr96r := hr96
            obtain rfl := hr96
            refine TL.yld rfl rfl (yld_load1 0 rfl ag_2 rfl hcl97 rfl rfl) ?_
            refine TL.yld rfl rfl (yld_max2 rfl rfl rfl) ?_
            refine TL.yld rfl rfl (yld_assign rfl rfl) ?_
            refine TL.done ?_
            refine NX.seq ?_
            refine WC.seq ?_
            refine WC.region ?_
            refine TL.yld rfl rfl (yld_move rfl rfl) ?_
            refine TL.yld rfl rfl (yld_move rfl rfl) ?_
            obtain ⟨x98, hy99, hF⟩ := bsome hF
            refine TL.ye rfl rfl (ye_index (c := (cInt .i64)) rfl Try.underlying45 cn_2 rfl rfl (slRep.old ha6 he81 (Nat.le_refl _)) hy99) ?_
            rintro _ ⟨b100, o101, us102, rfl, hib105, hr103, hcl104⟩
            have hib105 : 0 ≤ b100 ∧ b100 < w.heap.size := ⟨hib105.1, by have := hib105.2; omega⟩
            obtain rfl := hr103
            refine TL.yld rfl rfl (yld_load1 0 rfl ag_2 rfl hcl104 rfl rfl) ?_
            refine TL.yld rfl rfl (yld_move rfl rfl) ?_
            refine TL.yld rfl rfl (yld_neq rfl rfl rfl) ?_
            refine TL.done ?_
            refine NX.seq ?_
            refine WC.cond rfl ?_ ?_
            · intro hc106
              replace hF := bif_t hc106 hF
              refine WC.seq ?_
              refine WC.region ?_
              refine TL.yld rfl rfl (yld_assign rfl rfl) ?_
              refine TL.done ?_
              refine NX.seq ?_
              refine WC.ret' ?_
              refine NX.blk_r ?_
              refine NX.then_r ?_
              refine NX.then_r ?_
              refine NX.blk_r ?_
              refine NX.then_r ?_
              obtain rfl := Option.some.inj hF
              exact NX.end (rs := [.tmp 4]) (vs := [.bool false]) rfl ⟨rfl, trivial⟩ ⟨_, rfl, rfl, he81⟩
            · intro hc107
              replace hF := bif_f hc107 hF
              refine WC.skip' ?_
              refine NX.blk_n ?_
              refine NX.seq ?_
              refine WC.region ?_
              refine TL.yld rfl rfl (yld_add rfl rfl rfl) ?_
              refine TL.yld rfl rfl (yld_move rfl rfl) ?_
              refine TL.done ?_
              refine NX.then_n ?_
              intro a hK; exact ⟨m60, Nat.lt_succ_self m60, (IntKind.wrap IntKind.i64 (i57 + 1)), hK.weaken ⟨rfl, rfl, rfl, rfl, rfl, rfl, trivial⟩, he81, (by omega), hs58, hs59, hF⟩
          · intro hc108
            replace hF := bif_f hc108 hF
            refine WC.skip' ?_
            refine NX.seq ?_
            refine WC.seq ?_
            refine WC.region ?_
            refine TL.yld rfl rfl (yld_move rfl rfl) ?_
            refine TL.yld rfl rfl (yld_move rfl rfl) ?_
            obtain ⟨x109, hy110, hF⟩ := bsome hF
            refine TL.ye rfl rfl (ye_index (c := (cInt .i64)) rfl Try.underlying45 cn_2 rfl rfl (slRep.old ha6 he81 (Nat.le_refl _)) hy110) ?_
            rintro _ ⟨b111, o112, us113, rfl, hib116, hr114, hcl115⟩
            have hib116 : 0 ≤ b111 ∧ b111 < w.heap.size := ⟨hib116.1, by have := hib116.2; omega⟩
            obtain rfl := hr114
            refine TL.yld rfl rfl (yld_load1 0 rfl ag_2 rfl hcl115 rfl rfl) ?_
            refine TL.yld rfl rfl (yld_move rfl rfl) ?_
            refine TL.yld rfl rfl (yld_neq rfl rfl rfl) ?_
            refine TL.done ?_
            refine NX.seq ?_
            refine WC.cond rfl ?_ ?_
            · intro hc117
              replace hF := bif_t hc117 hF
              refine WC.seq ?_
              refine WC.region ?_
              refine TL.yld rfl rfl (yld_assign rfl rfl) ?_
              refine TL.done ?_
              refine NX.seq ?_
              refine WC.ret' ?_
              refine NX.blk_r ?_
              refine NX.then_r ?_
              refine NX.then_r ?_
              refine NX.blk_r ?_
              refine NX.then_r ?_
              obtain rfl := Option.some.inj hF
              exact NX.end (rs := [.tmp 4]) (vs := [.bool false]) rfl ⟨rfl, trivial⟩ ⟨_, rfl, rfl, he81⟩
            · intro hc118
              replace hF := bif_f hc118 hF
              refine WC.skip' ?_
              refine NX.blk_n ?_
              refine NX.seq ?_
              refine WC.region ?_
              refine TL.yld rfl rfl (yld_add rfl rfl rfl) ?_
              refine TL.yld rfl rfl (yld_move rfl rfl) ?_
              refine TL.done ?_
              refine NX.then_n ?_
              intro a hK; exact ⟨m60, Nat.lt_succ_self m60, (IntKind.wrap IntKind.i64 (i57 + 1)), hK.weaken ⟨rfl, rfl, rfl, rfl, rfl, rfl, trivial⟩, he81, (by omega), hs58, hs59, hF⟩
        · intro hc119
          replace hF := bif_f hc119 hF
          refine WC.exit' ?_
          refine NX.then_e ?_
          refine NX.then_e ?_
          refine NX.blk_hit ?_
          refine NX.seq ?_
          refine WC.seq ?_
          refine WC.region ?_
          refine TL.yld rfl rfl (yld_assign rfl rfl) ?_
          refine TL.done ?_
          refine NX.seq ?_
          refine WC.ret' ?_
          obtain rfl := Option.some.inj hF
          exact NX.end (rs := [.tmp 4]) (vs := [.bool true]) rfl ⟨rfl, trivial⟩ ⟨_, rfl, rfl, he56⟩

-- loop.example/g00861/laws.roll
def F_laws_roll_L1 (a0_code : List Int) (k0 : Int → Int → Int → Option S_dice) : Nat → Int → Int → Int → Option S_dice
  | 0 => fun _ _ _ => none
  | m + 1 => fun i12 i14 i15 => (bif decide (i12 < (a0_code.length : Int)) then (Option.bind (getI a0_code i12) fun x17 => (F_laws_roll_L1 a0_code k0 m (IntKind.wrap IntKind.i64 (i12 + 1)) i14 (IntKind.wrap IntKind.u64 ((IntKind.wrap IntKind.u64 ((IntKind.wrap IntKind.u64 (i15 * 1099511628211)) + (IntKind.wrap IntKind.u64 x17))) + 3)))) else (k0 i12 i14 i15))
theorem F_laws_roll_L1_z (a0_code : List Int) (k0 : Int → Int → Int → Option S_dice) (i12 : Int) (i14 : Int) (i15 : Int) : F_laws_roll_L1 a0_code k0 0 i12 i14 i15 = none := rfl
theorem F_laws_roll_L1_s (m : Nat) (a0_code : List Int) (k0 : Int → Int → Int → Option S_dice) (i12 : Int) (i14 : Int) (i15 : Int) : F_laws_roll_L1 a0_code k0 (m + 1) i12 i14 i15 = (bif decide (i12 < (a0_code.length : Int)) then (Option.bind (getI a0_code i12) fun x17 => (F_laws_roll_L1 a0_code k0 m (IntKind.wrap IntKind.i64 (i12 + 1)) i14 (IntKind.wrap IntKind.u64 ((IntKind.wrap IntKind.u64 ((IntKind.wrap IntKind.u64 (i15 * 1099511628211)) + (IntKind.wrap IntKind.u64 x17))) + 3)))) else (k0 i12 i14 i15)) := rfl

def F_laws_roll (n : Nat) (a0_code : List Int) (a1_seed : Int) : Option S_dice := (F_laws_roll_L1 a0_code (fun i12 i14 i15 => (some ((S_dice.mk a0_code i14 i15)))) n 0 0 (IntKind.wrap IntKind.u64 ((IntKind.wrap IntKind.u64 (a1_seed * 7919)) + (IntKind.wrap IntKind.u64 ((a0_code.length : Int))))))
set_option maxHeartbeats 40000000 in
theorem W_laws_roll {n : Nat} {a0_code : List Int} {a1_seed : Int} {r : S_dice} {w : World} {v1 : Value} (hF : F_laws_roll n a0_code a1_seed = some r) (ha2 : slRep (cInt .u8) w (Iv 0 w.heap.size) a0_code v1) :
    Calls Try.prog 37 [v1, .int .u64 a1_seed].toArray w (Ret fun u w2 => ∃ b0, u = .pointer (some ⟨b0, 0, none⟩) ∧ Box w2 b0 [v1, .int .i64 r.i_, .int .u64 r.h_] 99 ∧ w.heap.size ≤ b0 ∧ Ext w w2) := by
  refine calls_of Try.func37 rfl Try.ntmps37 ?_
  have he0 : Ext w w := Ext.refl w
  unfold F_laws_roll at hF
  refine WC.seq ?_
  refine WC.region ?_
  refine TL.yld rfl rfl (yld_assign rfl rfl) ?_
  refine TL.done ?_
  refine NX.seq ?_
  refine WC.seq ?_
  refine WC.region ?_
  refine TL.yld rfl rfl (yld_move rfl rfl) ?_
  refine TL.yld rfl rfl (yld_move rfl rfl) ?_
  refine TL.yld rfl rfl (yld_mul rfl rfl rfl) ?_
  refine TL.yld rfl rfl (yld_move rfl rfl) ?_
  refine TL.yld rfl rfl (ye_len (c := (cInt .u8)) rfl Try.underlying42 rfl (slRep.old ha2 he0 (Nat.le_refl _))) ?_
  refine TL.yld rfl rfl (yld_conv rfl Try.underlying3 Try.underlying60 rfl) ?_
  refine TL.yld rfl rfl (yld_add rfl rfl rfl) ?_
  refine TL.yld rfl rfl (yld_build (uss := [(0, [v1]), (2, [.int .u64 (IntKind.wrap IntKind.u64 ((IntKind.wrap IntKind.u64 (a1_seed * 7919)) + (IntKind.wrap IntKind.u64 ((a0_code.length : Int)))))])]) (out := [v1, .int .i64 0, .int .u64 (IntKind.wrap IntKind.u64 ((IntKind.wrap IntKind.u64 (a1_seed * 7919)) + (IntKind.wrap IntKind.u64 ((a0_code.length : Int)))))]) rfl rfl zn_99 pl_99 (pt_cons (slRep.cl (slRep.old ha2 he0 (Nat.le_refl _))) (pt_cons rfl rfl)) rfl) ?_
  refine TL.eff rfl rfl (eff_box rfl rfl) ?_
  rintro _ w4 ⟨b3, rfl, hn5⟩
  obtain ⟨hn5e, hn5s, hn5x, hb6⟩ := hn5
  have hb6 : Box w4 b3 [v1, .int .i64 0, .int .u64 (IntKind.wrap IntKind.u64 ((IntKind.wrap IntKind.u64 (a1_seed * 7919)) + (IntKind.wrap IntKind.u64 ((a0_code.length : Int)))))] 99 := hb6
  have he8 : Ext w w4 := Ext.trans he0 hn5x
  have hz9 := (hn5x).size
  have hlo7 : w.heap.size ≤ b3 := by rw [hn5e]; exact (he0).size
  refine TL.yld rfl rfl (yld_assign rfl rfl) ?_
  refine TL.done ?_
  refine NX.seq ?_
  refine WC.seq ?_
  refine WC.seq ?_
  refine WC.region ?_
  refine TL.yld rfl rfl (yld_assign rfl rfl) ?_
  refine TL.done ?_
  refine NX.seq ?_
  refine WC.block ?_
  refine WC.loop (fun m16 a wl => ∃ (i12 : Int) (i14 : Int) (i15 : Int), Kn 38 [(0, v1), (5, .pointer (some ⟨b3, 0, none⟩)), (6, .int .i64 i12)] a ∧ Ext w wl ∧ w4.heap.size ≤ wl.heap.size ∧ Box wl b3 [v1, .int .i64 i14, .int .u64 i15] 99 ∧ F_laws_roll_L1 a0_code (fun i12 i14 i15 => (some ((S_dice.mk a0_code i14 i15)))) m16 i12 i14 i15 = some r) n ?_ ?_
  · intro a hK; exact ⟨0, 0, (IntKind.wrap IntKind.u64 ((IntKind.wrap IntKind.u64 (a1_seed * 7919)) + (IntKind.wrap IntKind.u64 ((a0_code.length : Int))))), hK.weaken ⟨rfl, rfl, rfl, trivial⟩, he8, Nat.le_refl _, hb6, hF⟩
  · rintro m16 a w10 ⟨i12, i14, i15, hK, he11, hz17, hb13, hF⟩
    revert hK; revert a; refine (?_ : WC _ _ _ _ _ _)
    cases m16 with
    | zero => rw [F_laws_roll_L1_z] at hF; cases hF
    | succ m16 =>
      rw [F_laws_roll_L1_s] at hF
      refine WC.seq ?_
      refine WC.seq ?_
      refine WC.region ?_
      refine TL.yld rfl rfl (yld_move rfl rfl) ?_
      refine TL.yld rfl rfl (yld_move rfl rfl) ?_
      refine TL.yld rfl rfl (ye_len (c := (cInt .u8)) rfl Try.underlying42 rfl (slRep.old ha2 he11 (Nat.le_refl _))) ?_
      refine TL.yld rfl rfl (yld_lss rfl rfl rfl) ?_
      refine TL.done ?_
      refine NX.seq ?_
      refine WC.cond rfl ?_ ?_
      · intro hc18
        replace hF := bif_t hc18 hF
        refine WC.skip' ?_
        refine NX.seq ?_
        refine WC.seq ?_
        refine WC.block ?_
        obtain ⟨x19, hy20, hF⟩ := bsome hF
        refine WC.held 13 Try.hm fun w32 hx33 => ?_
        have he34 : Ext w w32 := Ext.trans he11 hx33
        have hb13 := Box.ext hb13 hx33
        have hz35 := (hx33).size
        refine HL.yld 0 (by kernel_rfl) rfl (by kernel_rfl) rfl rfl (yld_move rfl rfl) ?_
        refine HL.yld 1 (by kernel_rfl) rfl (by kernel_rfl) rfl rfl (yld_move rfl rfl) ?_
        refine HL.yld 2 (by kernel_rfl) rfl (by kernel_rfl) rfl rfl (yld_nilCheck rfl rfl) ?_
        refine HL.yld 3 (by kernel_rfl) rfl (by kernel_rfl) rfl rfl (yld_fieldAddr rfl fo_99_2 rfl) ?_
        refine HL.yld 4 (by kernel_rfl) rfl (by kernel_rfl) rfl rfl (yld_load1 2 rfl ag_60 rfl (Box.cells hb13) rfl rfl) ?_
        refine HL.yld 5 (by kernel_rfl) rfl (by kernel_rfl) rfl rfl (yld_mul rfl rfl rfl) ?_
        refine HL.yld 6 (by kernel_rfl) rfl (by kernel_rfl) rfl rfl (yld_move rfl rfl) ?_
        refine HL.yld 7 (by kernel_rfl) rfl (by kernel_rfl) rfl rfl (yld_move rfl rfl) ?_
        refine HL.ye 8 (by kernel_rfl) rfl (by kernel_rfl) rfl rfl (ye_index (c := (cInt .u8)) rfl Try.underlying42 cn_5 rfl rfl (slRep.old ha2 he34 (Nat.le_refl _)) hy20) ?_
        rintro _ ⟨b36, o37, us38, rfl, hib41, hr39, hcl40⟩
        have hib41 : 0 ≤ b36 ∧ b36 < w.heap.size := ⟨hib41.1, by have := hib41.2; omega⟩
        obtain rfl := hr39
        refine HL.yld 9 (by kernel_rfl) rfl (by kernel_rfl) rfl rfl (yld_load1 0 rfl ag_5 rfl hcl40 rfl rfl) ?_
        refine HL.yld 10 (by kernel_rfl) rfl (by kernel_rfl) rfl rfl (yld_conv rfl Try.underlying5 Try.underlying60 rfl) ?_
        refine HL.yld 11 (by kernel_rfl) rfl (by kernel_rfl) rfl rfl (yld_add rfl rfl rfl) ?_
        refine HL.yld 12 (by kernel_rfl) rfl (by kernel_rfl) rfl rfl (yld_add rfl rfl rfl) ?_
        refine HL.tail rfl (by kernel_rfl) rfl ?_
        refine TL.yld rfl rfl (yld_nilCheck rfl rfl) ?_
        refine TL.yld rfl rfl (yld_fieldAddr rfl fo_99_2 rfl) ?_
        refine TL.eff rfl rfl (eff_store rfl rfl rfl hb13 cn_60 rfl rfl) ?_
        rintro _ w42 ⟨hu43, hb44⟩
        have he45 : Ext w w42 := Below.trans he34 (Upd.below hu43 (by omega))
        have hz46 := (hu43).size
        have hb13 : Box w42 b3 [v1, .int .i64 i14, .int .u64 (IntKind.wrap IntKind.u64 ((IntKind.wrap IntKind.u64 ((IntKind.wrap IntKind.u64 (i15 * 1099511628211)) + (IntKind.wrap IntKind.u64 x19))) + 3))] 99 := hb44
        refine TL.noPan (l := []) ?_
        refine NX.blk_n ?_
        refine NX.seq ?_
        refine WC.region ?_
        refine TL.yld rfl rfl (yld_move rfl rfl) ?_
        refine TL.yld rfl rfl (yld_add rfl rfl rfl) ?_
        refine TL.yld rfl rfl (yld_assign rfl rfl) ?_
        refine TL.done ?_
        refine NX.then_n ?_
        intro a hK; exact ⟨m16, Nat.lt_succ_self m16, (IntKind.wrap IntKind.i64 (i12 + 1)), i14, (IntKind.wrap IntKind.u64 ((IntKind.wrap IntKind.u64 ((IntKind.wrap IntKind.u64 (i15 * 1099511628211)) + (IntKind.wrap IntKind.u64 x19))) + 3)), hK.weaken ⟨rfl, rfl, rfl, trivial⟩, he45, (by omega), hb13, hF⟩
      · intro hc47
        replace hF := bif_f hc47 hF
        refine WC.exit' ?_
        refine NX.then_e ?_
        refine NX.then_e ?_
        refine NX.blk_hit ?_
        refine NX.seq ?_
        refine WC.seq ?_
        refine WC.region ?_
        refine TL.yld rfl rfl (yld_move rfl rfl) ?_
        refine TL.yld rfl rfl (yld_assign rfl rfl) ?_
        refine TL.done ?_
        refine NX.seq ?_
        refine WC.ret' ?_
        obtain rfl := Option.some.inj hF
        exact NX.end (rs := [.tmp 4]) (vs := [.pointer (some ⟨b3, 0, none⟩)]) rfl ⟨rfl, trivial⟩ ⟨_, rfl, _, rfl, hb13, (by omega), he11⟩

-- loop.example/g00861/spec.l01From
def F_spec_l01From_L1 (a0_code : List Int) (k0 : Int → Int → Int → Option S_l01Source) : Nat → Int → Int → Int → Option S_l01Source
  | 0 => fun _ _ _ => none
  | m + 1 => fun i12 i14 i15 => (bif ((decide (i12 < (a0_code.length : Int))) && (decide (i12 < 64))) then (Option.bind (getI a0_code i12) fun x22 => (F_spec_l01From_L1 a0_code k0 m (IntKind.wrap IntKind.i64 (i12 + 1)) i14 (Int.tmod (IntKind.wrap IntKind.i64 ((IntKind.wrap IntKind.i64 (i15 * 31)) + (IntKind.wrap IntKind.i64 x22))) 2147483647))) else (k0 i12 i14 i15))
theorem F_spec_l01From_L1_z (a0_code : List Int) (k0 : Int → Int → Int → Option S_l01Source) (i12 : Int) (i14 : Int) (i15 : Int) : F_spec_l01From_L1 a0_code k0 0 i12 i14 i15 = none := rfl
theorem F_spec_l01From_L1_s (m : Nat) (a0_code : List Int) (k0 : Int → Int → Int → Option S_l01Source) (i12 : Int) (i14 : Int) (i15 : Int) : F_spec_l01From_L1 a0_code k0 (m + 1) i12 i14 i15 = (bif ((decide (i12 < (a0_code.length : Int))) && (decide (i12 < 64))) then (Option.bind (getI a0_code i12) fun x22 => (F_spec_l01From_L1 a0_code k0 m (IntKind.wrap IntKind.i64 (i12 + 1)) i14 (Int.tmod (IntKind.wrap IntKind.i64 ((IntKind.wrap IntKind.i64 (i15 * 31)) + (IntKind.wrap IntKind.i64 x22))) 2147483647))) else (k0 i12 i14 i15)) := rfl

def F_spec_l01From (n : Nat) (a0_code : List Int) : Option S_l01Source := (F_spec_l01From_L1 a0_code (fun i12 i14 i15 => (some ((S_l01Source.mk a0_code i14 i15)))) n 0 0 12345)
set_option maxHeartbeats 40000000 in
theorem W_spec_l01From {n : Nat} {a0_code : List Int} {r : S_l01Source} {w : World} {v1 : Value} (hF : F_spec_l01From n a0_code = some r) (ha2 : slRep (cInt .u8) w (Iv 0 w.heap.size) a0_code v1) :
    Calls Try.prog 64 [v1].toArray w (Ret fun u w2 => ∃ b0, u = .pointer (some ⟨b0, 0, none⟩) ∧ Box w2 b0 [v1, .int .i64 r.at_, .int .i64 r.seed_] 115 ∧ w.heap.size ≤ b0 ∧ Ext w w2) := by
  refine calls_of Try.func64 rfl Try.ntmps64 ?_
  have he0 : Ext w w := Ext.refl w
  unfold F_spec_l01From at hF
  refine WC.seq ?_
  refine WC.region ?_
  refine TL.yld rfl rfl (yld_assign rfl rfl) ?_
  refine TL.done ?_
  refine NX.seq ?_
  refine WC.seq ?_
  refine WC.region ?_
  refine TL.yld rfl rfl (yld_move rfl rfl) ?_
  refine TL.yld rfl rfl (yld_build (uss := [(0, [v1]), (2, [.int .i64 12345])]) (out := [v1, .int .i64 0, .int .i64 12345]) rfl rfl zn_115 pl_115 (pt_cons (slRep.cl (slRep.old ha2 he0 (Nat.le_refl _))) (pt_cons rfl rfl)) rfl) ?_
  refine TL.eff rfl rfl (eff_box rfl rfl) ?_
  rintro _ w4 ⟨b3, rfl, hn5⟩
  obtain ⟨hn5e, hn5s, hn5x, hb6⟩ := hn5
  have hb6 : Box w4 b3 [v1, .int .i64 0, .int .i64 12345] 115 := hb6
  have he8 : Ext w w4 := Ext.trans he0 hn5x
  have hz9 := (hn5x).size
  have hlo7 : w.heap.size ≤ b3 := by rw [hn5e]; exact (he0).size
  refine TL.yld rfl rfl (yld_assign rfl rfl) ?_
  refine TL.done ?_
  refine NX.seq ?_
  refine WC.seq ?_
  refine WC.seq ?_
  refine WC.region ?_
  refine TL.yld rfl rfl (yld_assign rfl rfl) ?_
  refine TL.done ?_
  refine NX.seq ?_
  refine WC.block ?_
  refine WC.loop (fun m16 a wl => ∃ (i12 : Int) (i14 : Int) (i15 : Int), Kn 34 [(0, v1), (3, .pointer (some ⟨b3, 0, none⟩)), (4, .int .i64 i12)] a ∧ Ext w wl ∧ w4.heap.size ≤ wl.heap.size ∧ Box wl b3 [v1, .int .i64 i14, .int .i64 i15] 115 ∧ F_spec_l01From_L1 a0_code (fun i12 i14 i15 => (some ((S_l01Source.mk a0_code i14 i15)))) m16 i12 i14 i15 = some r) n ?_ ?_
  · intro a hK; exact ⟨0, 0, 12345, hK.weaken ⟨rfl, rfl, rfl, trivial⟩, he8, Nat.le_refl _, hb6, hF⟩
  · rintro m16 a w10 ⟨i12, i14, i15, hK, he11, hz17, hb13, hF⟩
    revert hK; revert a; refine (?_ : WC _ _ _ _ _ _)
    cases m16 with
    | zero => rw [F_spec_l01From_L1_z] at hF; cases hF
    | succ m16 =>
      rw [F_spec_l01From_L1_s] at hF
      refine WC.seq ?_
      refine WC.seq ?_
      refine WC.region ?_
      refine TL.yld rfl rfl (yld_move rfl rfl) ?_
      refine TL.yld rfl rfl (yld_move rfl rfl) ?_
      refine TL.yld rfl rfl (ye_len (c := (cInt .u8)) rfl Try.underlying42 rfl (slRep.old ha2 he11 (Nat.le_refl _))) ?_
      refine TL.yld rfl rfl (yld_lss rfl rfl rfl) ?_
      refine TL.yld rfl rfl (yld_move rfl rfl) ?_
      refine TL.cut 3 [(0, v1), (3, .pointer (some ⟨b3, 0, none⟩)), (4, .int .i64 i12), (15, .bool (((decide (i12 < (a0_code.length : Int))) && (decide (i12 < 64)))))] (fun w' => Ext w10 w') ?_ ?_
      · rcases Bool.eq_false_or_eq_true (decide (i12 < (a0_code.length : Int))) with hg18 | hg18
        ·
          refine TL.gy (j := 4) (t := 12) rfl rfl rfl hg18 rfl (yld_move rfl rfl) ?_
          refine TL.gy (j := 4) (t := 12) rfl rfl rfl hg18 rfl (yld_lss rfl rfl rfl) ?_
          refine TL.yld rfl rfl (yld_and_t rfl rfl hg18 rfl) ?_
          exact TL.nil fun a h => ⟨h.weaken ⟨rfl, rfl, rfl, rfl, trivial⟩, Ext.refl _⟩
        ·
          refine TL.gnu (j := 4) (t := 12) rfl rfl rfl hg18 rfl ?_
          refine TL.gnu (j := 4) (t := 12) rfl rfl rfl hg18 rfl ?_
          refine TL.yld rfl rfl (yld_and_f (b2 := decide (i12 < 64)) rfl rfl hg18 rfl) ?_
          exact TL.nil fun a h => ⟨h.weaken ⟨rfl, rfl, rfl, rfl, trivial⟩, Ext.refl _⟩
      intro w19 hx20
      have he21 : Ext w w19 := Ext.trans he11 hx20
      have hb13 := Box.ext hb13 hx20
      have hz22 := (hx20).size
      refine TL.done ?_
      refine NX.seq ?_
      refine WC.cond rfl ?_ ?_
      · intro hc23
        replace hF := bif_t hc23 hF
        refine WC.skip' ?_
        refine NX.seq ?_
        refine WC.seq ?_
        refine WC.block ?_
        obtain ⟨x24, hy25, hF⟩ := bsome hF
        refine WC.held 13 Try.hm fun w37 hx38 => ?_
        have he39 : Ext w w37 := Ext.trans he21 hx38
        have hb13 := Box.ext hb13 hx38
        have hz40 := (hx38).size
        refine HL.yld 0 (by kernel_rfl) rfl (by kernel_rfl) rfl rfl (yld_move rfl rfl) ?_
        refine HL.yld 1 (by kernel_rfl) rfl (by kernel_rfl) rfl rfl (yld_move rfl rfl) ?_
        refine HL.yld 2 (by kernel_rfl) rfl (by kernel_rfl) rfl rfl (yld_nilCheck rfl rfl) ?_
        refine HL.yld 3 (by kernel_rfl) rfl (by kernel_rfl) rfl rfl (yld_fieldAddr rfl fo_115_2 rfl) ?_
        refine HL.yld 4 (by kernel_rfl) rfl (by kernel_rfl) rfl rfl (yld_load1 2 rfl ag_2 rfl (Box.cells hb13) rfl rfl) ?_
        refine HL.yld 5 (by kernel_rfl) rfl (by kernel_rfl) rfl rfl (yld_mul rfl rfl rfl) ?_
        refine HL.yld 6 (by kernel_rfl) rfl (by kernel_rfl) rfl rfl (yld_move rfl rfl) ?_
        refine HL.yld 7 (by kernel_rfl) rfl (by kernel_rfl) rfl rfl (yld_move rfl rfl) ?_
        refine HL.ye 8 (by kernel_rfl) rfl (by kernel_rfl) rfl rfl (ye_index (c := (cInt .u8)) rfl Try.underlying42 cn_5 rfl rfl (slRep.old ha2 he39 (Nat.le_refl _)) hy25) ?_
        rintro _ ⟨b41, o42, us43, rfl, hib46, hr44, hcl45⟩
        have hib46 : 0 ≤ b41 ∧ b41 < w.heap.size := ⟨hib46.1, by have := hib46.2; omega⟩
        obtain rfl := hr44
        refine HL.yld 9 (by kernel_rfl) rfl (by kernel_rfl) rfl rfl (yld_load1 0 rfl ag_5 rfl hcl45 rfl rfl) ?_
        refine HL.yld 10 (by kernel_rfl) rfl (by kernel_rfl) rfl rfl (yld_conv rfl Try.underlying5 Try.underlying2 rfl) ?_
        refine HL.yld 11 (by kernel_rfl) rfl (by kernel_rfl) rfl rfl (yld_add rfl rfl rfl) ?_
        refine HL.yld 12 (by kernel_rfl) rfl (by kernel_rfl) rfl rfl (yld_rem rfl rfl rfl (by decide)) ?_
        refine HL.tail rfl (by kernel_rfl) rfl ?_
        refine TL.yld rfl rfl (yld_nilCheck rfl rfl) ?_
        refine TL.yld rfl rfl (yld_fieldAddr rfl fo_115_2 rfl) ?_
        refine TL.eff rfl rfl (eff_store rfl rfl rfl hb13 cn_2 rfl rfl) ?_
        rintro _ w47 ⟨hu48, hb49⟩
        have he50 : Ext w w47 := Below.trans he39 (Upd.below hu48 (by omega))
        have hz51 := (hu48).size
        have hb13 : Box w47 b3 [v1, .int .i64 i14, .int .i64 (Int.tmod (IntKind.wrap IntKind.i64 ((IntKind.wrap IntKind.i64 (i15 * 31)) + (IntKind.wrap IntKind.i64 x24))) 2147483647)] 115 := hb49
        refine TL.noPan (l := []) ?_
        refine NX.blk_n ?_
        refine NX.seq ?_
        refine WC.region ?_
        refine TL.yld rfl rfl (yld_move rfl rfl) ?_
        refine TL.yld rfl rfl (yld_add rfl rfl rfl) ?_
        refine TL.yld rfl rfl (yld_assign rfl rfl) ?_
        refine TL.done ?_
        refine NX.then_n ?_
        intro a hK; exact ⟨m16, Nat.lt_succ_self m16, (IntKind.wrap IntKind.i64 (i12 + 1)), i14, (Int.tmod (IntKind.wrap IntKind.i64 ((IntKind.wrap IntKind.i64 (i15 * 31)) + (IntKind.wrap IntKind.i64 x24))) 2147483647), hK.weaken ⟨rfl, rfl, rfl, trivial⟩, he50, (by omega), hb13, hF⟩
      · intro hc52
        replace hF := bif_f hc52 hF
        refine WC.exit' ?_
        refine NX.then_e ?_
        refine NX.then_e ?_
        refine NX.blk_hit ?_
        refine NX.seq ?_
        refine WC.seq ?_
        refine WC.region ?_
        refine TL.yld rfl rfl (yld_move rfl rfl) ?_
        refine TL.yld rfl rfl (yld_assign rfl rfl) ?_
        refine TL.done ?_
        refine NX.seq ?_
        refine WC.ret' ?_
        obtain rfl := Option.some.inj hF
        exact NX.end (rs := [.tmp 2]) (vs := [.pointer (some ⟨b3, 0, none⟩)]) rfl ⟨rfl, trivial⟩ ⟨_, rfl, _, rfl, hb13, (by omega), he21⟩

-- loop.example/g00861/spec.l01Next
def F_spec_l01Next (n : Nat) (a0_s : S_l01Source) (a1_n : Int) : Option (Int × S_l01Source) := (bif decide (a1_n ≤ 1) then (some (0, a0_s)) else (bif decide (a0_s.at_ < (a0_s.code_.length : Int)) then (Option.bind (getI a0_s.code_ a0_s.at_) fun x15 => (bif decide (a1_n ≤ 256) then (bif (a1_n == 0) then none else (some (Int.tmod (IntKind.wrap IntKind.i64 x15) a1_n, (S_l01Source.mk a0_s.code_ (IntKind.wrap IntKind.i64 (a0_s.at_ + 1)) a0_s.seed_)))) else (bif (a1_n == 0) then none else (some (Int.tmod (Int.tmod (IntKind.wrap IntKind.i64 ((IntKind.wrap IntKind.i64 ((IntKind.wrap IntKind.i64 (a0_s.seed_ * 48271)) + (IntKind.wrap IntKind.i64 x15))) + 1)) 2147483647) a1_n, (S_l01Source.mk a0_s.code_ (IntKind.wrap IntKind.i64 (a0_s.at_ + 1)) (Int.tmod (IntKind.wrap IntKind.i64 ((IntKind.wrap IntKind.i64 ((IntKind.wrap IntKind.i64 (a0_s.seed_ * 48271)) + (IntKind.wrap IntKind.i64 x15))) + 1)) 2147483647))))))) else (bif (a1_n == 0) then none else (some (Int.tmod (IntKind.wrap IntKind.i64 (Int.tdiv (Int.tmod (IntKind.wrap IntKind.i64 ((IntKind.wrap IntKind.i64 (a0_s.seed_ * 48271)) + 11)) 2147483647) 7)) a1_n, (S_l01Source.mk a0_s.code_ a0_s.at_ (Int.tmod (IntKind.wrap IntKind.i64 ((IntKind.wrap IntKind.i64 (a0_s.seed_ * 48271)) + 11)) 2147483647)))))))
set_option maxHeartbeats 40000000 in
theorem W_spec_l01Next {n : Nat} {a0_s : S_l01Source} {a1_n : Int} {r : Int × S_l01Source} {w : World} {v1 : Value} {lo3 hi4 : Nat} {b0_ : Nat} (hF : F_spec_l01Next n a0_s a1_n = some r) (hb5 : Box w b0_ [v1, .int .i64 a0_s.at_, .int .i64 a0_s.seed_] 115) (ha2 : slRep (cInt .u8) w (Iv lo3 hi4) a0_s.code_ v1) (hh6 : hi4 ≤ w.heap.size) (hh7 : b0_ < lo3 ∨ hi4 ≤ b0_) :
    Calls Try.prog 93 [.pointer (some ⟨b0_, 0, none⟩), .int .i64 a1_n].toArray w (Ret fun u w2 => u = .int .i64 r.1 ∧ Box w2 b0_ [v1, .int .i64 r.2.at_, .int .i64 r.2.seed_] 115 ∧ But (pB b0_) w w2) := by
  refine calls_of Try.func93 rfl Try.ntmps93 ?_
  have he0 : But (pB b0_) w w := But.refl _ w
  have := Box.lt hb5
  unfold F_spec_l01Next at hF
  refine WC.seq ?_
  refine WC.region ?_
  refine TL.yld rfl rfl (yld_assign rfl rfl) ?_
  refine TL.done ?_
  refine NX.seq ?_
  refine WC.seq ?_
  refine WC.seq ?_
  refine WC.region ?_
  refine TL.yld rfl rfl (yld_move rfl rfl) ?_
  refine TL.yld rfl rfl (yld_leq rfl rfl rfl) ?_
  refine TL.done ?_
  refine NX.seq ?_
  refine WC.cond rfl ?_ ?_
  · intro hc8
    replace hF := bif_t hc8 hF
    refine WC.seq ?_
    refine WC.region ?_
    refine TL.yld rfl rfl (yld_assign rfl rfl) ?_
    refine TL.done ?_
    refine NX.seq ?_
    refine WC.ret' ?_
    refine NX.then_r ?_
    obtain rfl := Option.some.inj hF
    exact NX.end (rs := [.tmp 4]) (vs := [.int .i64 0]) rfl ⟨rfl, trivial⟩ ⟨_, rfl, rfl, hb5, he0⟩
  · intro hc9
    replace hF := bif_f hc9 hF
    refine WC.skip' ?_
    refine NX.seq ?_
    refine WC.seq ?_
    refine WC.seq ?_
    refine WC.quiet Try.hm (by kernel_rfl) ?_
    refine QL.yld rfl rfl (Yld.qui (yld_move rfl rfl)) ?_
    refine QL.yld rfl rfl (Yld.qui (yld_nilCheck rfl rfl)) ?_
    refine QL.yld rfl rfl (Yld.qui (yld_fieldAddr rfl fo_115_1 rfl)) ?_
    refine QL.yld rfl rfl (Yld.qui (yld_load1 1 rfl ag_3 rfl (Box.cells hb5) rfl rfl)) ?_
    refine QL.yld rfl rfl (Yld.qui (yld_move rfl rfl)) ?_
    refine QL.yld rfl rfl (Yld.qui (yld_nilCheck rfl rfl)) ?_
    refine QL.yld rfl rfl (Yld.qui (yld_fieldAddr rfl fo_115_0 rfl)) ?_
    refine QL.yld rfl rfl (Yld.qui (yld_load1 0 rfl ag_42 rfl (Box.cells hb5) rfl rfl)) ?_
    refine QL.yld rfl rfl (Yld.qui (ye_len (c := (cInt .u8)) rfl Try.underlying42 rfl ha2)) ?_
    refine QL.yld rfl rfl (Yld.qui (yld_lss rfl rfl rfl)) ?_
    refine QL.done fun w10 hx11 => ?_
    have he12 : But (pB b0_) w w10 := But.ext he0 hx11
    have hb5 := Box.ext hb5 hx11
    have ha2 := slRep.old ha2 hx11 (by omega)
    have hz13 := (hx11).size
    refine NX.seq ?_
    refine WC.cond rfl ?_ ?_
    · intro hc14
      replace hF := bif_t hc14 hF
      refine WC.seq ?_
      refine WC.quiet Try.hm (by kernel_rfl) ?_
      refine QL.yld rfl rfl (Yld.qui (yld_move rfl rfl)) ?_
      refine QL.yld rfl rfl (Yld.qui (yld_nilCheck rfl rfl)) ?_
      refine QL.yld rfl rfl (Yld.qui (yld_fieldAddr rfl fo_115_0 rfl)) ?_
      refine QL.yld rfl rfl (Yld.qui (yld_load1 0 rfl ag_42 rfl (Box.cells hb5) rfl rfl)) ?_
      refine QL.yld rfl rfl (Yld.qui (yld_move rfl rfl)) ?_
      refine QL.yld rfl rfl (Yld.qui (yld_nilCheck rfl rfl)) ?_
      refine QL.yld rfl rfl (Yld.qui (yld_fieldAddr rfl fo_115_1 rfl)) ?_
      refine QL.yld rfl rfl (Yld.qui (yld_load1 1 rfl ag_3 rfl (Box.cells hb5) rfl rfl)) ?_
      obtain ⟨x15, hy16, hF⟩ := bsome hF
      refine QL.ye rfl rfl (ye_index (c := (cInt .u8)) rfl Try.underlying42 cn_5 rfl rfl ha2 hy16) ?_
      rintro _ ⟨b17, o18, us19, rfl, hib22, hr20, hcl21⟩
      have hib22 : lo3 ≤ b17 ∧ b17 < hi4 := ⟨hib22.1, by have := hib22.2; omega⟩
      obtain rfl := hr20
      refine QL.yld rfl rfl (Yld.qui (yld_load1 0 rfl ag_5 rfl hcl21 rfl rfl)) ?_
      refine QL.yld rfl rfl (Yld.qui (yld_conv rfl Try.underlying5 Try.underlying2 rfl)) ?_
      refine QL.yld rfl rfl (Yld.qui (yld_assign rfl rfl)) ?_
      refine QL.done fun w23 hx24 => ?_
      have he25 : But (pB b0_) w w23 := But.ext he12 hx24
      have hb5 := Box.ext hb5 hx24
      have ha2 := slRep.old ha2 hx24 (by omega)
      have hz26 := (hx24).size
      refine NX.seq ?_
      refine WC.seq ?_
      refine WC.region ?_
      refine TL.yld rfl rfl (yld_move rfl rfl) ?_
      refine TL.yld rfl rfl (yld_nilCheck rfl rfl) ?_
      refine TL.yld rfl rfl (yld_fieldAddr rfl fo_115_1 rfl) ?_
      refine TL.yld rfl rfl (yld_load1 1 rfl ag_3 rfl (Box.cells hb5) rfl rfl) ?_
      refine TL.yld rfl rfl (yld_add rfl rfl rfl) ?_
      refine TL.yld rfl rfl (yld_nilCheck rfl rfl) ?_
      refine TL.yld rfl rfl (yld_fieldAddr rfl fo_115_1 rfl) ?_
      refine TL.eff rfl rfl (eff_store rfl rfl rfl hb5 cn_3 rfl rfl) ?_
      rintro _ w27 ⟨hu28, hb29⟩
      have he30 : But (pB b0_) w w27 := But.upd he25 hu28 (Or.inl rfl)
      have ha2 := slRep.upd ha2 hu28 (by omega)
      have hz31 := (hu28).size
      have hb5 : Box w27 b0_ [v1, .int .i64 (IntKind.wrap IntKind.i64 (a0_s.at_ + 1)), .int .i64 a0_s.seed_] 115 := hb29
      refine TL.done ?_
      refine NX.seq ?_
      refine WC.seq ?_
      refine WC.seq ?_
      refine WC.region ?_
      refine TL.yld rfl rfl (yld_move rfl rfl) ?_
      refine TL.yld rfl rfl (yld_leq rfl rfl rfl) ?_
      refine TL.done ?_
      refine NX.seq ?_
      refine WC.cond rfl ?_ ?_
      · intro hc32
        replace hF := bif_t hc32 hF
        refine WC.seq ?_
        refine WC.region ?_
        refine TL.yld rfl rfl (yld_move rfl rfl) ?_
        refine TL.yld rfl rfl (yld_move rfl rfl) ?_
        obtain ⟨hn33, hF⟩ := nzero hF
        refine TL.yld rfl rfl (yld_rem rfl rfl rfl hn33) ?_
        refine TL.yld rfl rfl (yld_assign rfl rfl) ?_
        refine TL.done ?_
        refine NX.seq ?_
        refine WC.ret' ?_
        refine NX.then_r ?_
        refine NX.then_r ?_
        obtain rfl := Option.some.inj hF
        exact NX.end (rs := [.tmp 4]) (vs := [.int .i64 (Int.tmod (IntKind.wrap IntKind.i64 x15) a1_n)]) rfl ⟨rfl, trivial⟩ ⟨_, rfl, rfl, hb5, he30⟩
      · intro hc34
        replace hF := bif_f hc34 hF
        refine WC.skip' ?_
        refine NX.seq ?_
        refine WC.seq ?_
        refine WC.region ?_
        refine TL.yld rfl rfl (yld_move rfl rfl) ?_
        refine TL.yld rfl rfl (yld_move rfl rfl) ?_
        refine TL.yld rfl rfl (yld_nilCheck rfl rfl) ?_
        refine TL.yld rfl rfl (yld_fieldAddr rfl fo_115_2 rfl) ?_
        refine TL.yld rfl rfl (yld_load1 2 rfl ag_2 rfl (Box.cells hb5) rfl rfl) ?_
        refine TL.yld rfl rfl (yld_mul rfl rfl rfl) ?_
        refine TL.yld rfl rfl (yld_move rfl rfl) ?_
        refine TL.yld rfl rfl (yld_add rfl rfl rfl) ?_
        refine TL.yld rfl rfl (yld_add rfl rfl rfl) ?_
        refine TL.yld rfl rfl (yld_rem rfl rfl rfl (by decide)) ?_
        refine TL.yld rfl rfl (yld_nilCheck rfl rfl) ?_
        refine TL.yld rfl rfl (yld_fieldAddr rfl fo_115_2 rfl) ?_
        refine TL.eff rfl rfl (eff_store rfl rfl rfl hb5 cn_2 rfl rfl) ?_
        rintro _ w35 ⟨hu36, hb37⟩
        have he38 : But (pB b0_) w w35 := But.upd he30 hu36 (Or.inl rfl)
        have ha2 := slRep.upd ha2 hu36 (by omega)
        have hz39 := (hu36).size
        have hb5 : Box w35 b0_ [v1, .int .i64 (IntKind.wrap IntKind.i64 (a0_s.at_ + 1)), .int .i64 (Int.tmod (IntKind.wrap IntKind.i64 ((IntKind.wrap IntKind.i64 ((IntKind.wrap IntKind.i64 (a0_s.seed_ * 48271)) + (IntKind.wrap IntKind.i64 x15))) + 1)) 2147483647)] 115 := hb37
        refine TL.done ?_
        refine NX.seq ?_
        refine WC.seq ?_
        refine WC.region ?_
        refine TL.yld rfl rfl (yld_move rfl rfl) ?_
        refine TL.yld rfl rfl (yld_nilCheck rfl rfl) ?_
        refine TL.yld rfl rfl (yld_fieldAddr rfl fo_115_2 rfl) ?_
        refine TL.yld rfl rfl (yld_load1 2 rfl ag_2 rfl (Box.cells hb5) rfl rfl) ?_
        refine TL.yld rfl rfl (yld_move rfl rfl) ?_
        obtain ⟨hn40, hF⟩ := nzero hF
        refine TL.yld rfl rfl (yld_rem rfl rfl rfl hn40) ?_
        refine TL.yld rfl rfl (yld_assign rfl rfl) ?_
        refine TL.done ?_
        refine NX.seq ?_
        refine WC.ret' ?_
        refine NX.then_r ?_
        obtain rfl := Option.some.inj hF
        exact NX.end (rs := [.tmp 4]) (vs := [.int .i64 (Int.tmod (Int.tmod (IntKind.wrap IntKind.i64 ((IntKind.wrap IntKind.i64 ((IntKind.wrap IntKind.i64 (a0_s.seed_ * 48271)) + (IntKind.wrap IntKind.i64 x15))) + 1)) 2147483647) a1_n)]) rfl ⟨rfl, trivial⟩ ⟨_, rfl, rfl, hb5, he38⟩
    · intro hc41
      replace hF := bif_f hc41 hF
      refine WC.skip' ?_
      refine NX.seq ?_
      refine WC.seq ?_
      refine WC.region ?_
      refine TL.yld rfl rfl (yld_move rfl rfl) ?_
      refine TL.yld rfl rfl (yld_move rfl rfl) ?_
      refine TL.yld rfl rfl (yld_nilCheck rfl rfl) ?_
      refine TL.yld rfl rfl (yld_fieldAddr rfl fo_115_2 rfl) ?_
      refine TL.yld rfl rfl (yld_load1 2 rfl ag_2 rfl (Box.cells hb5) rfl rfl) ?_
      refine TL.yld rfl rfl (yld_mul rfl rfl rfl) ?_
      refine TL.yld rfl rfl (yld_add rfl rfl rfl) ?_
      refine TL.yld rfl rfl (yld_rem rfl rfl rfl (by decide)) ?_
      refine TL.yld rfl rfl (yld_nilCheck rfl rfl) ?_
      refine TL.yld rfl rfl (yld_fieldAddr rfl fo_115_2 rfl) ?_
      refine TL.eff rfl rfl (eff_store rfl rfl rfl hb5 cn_2 rfl rfl) ?_
      rintro _ w42 ⟨hu43, hb44⟩
      have he45 : But (pB b0_) w w42 := But.upd he12 hu43 (Or.inl rfl)
      have ha2 := slRep.upd ha2 hu43 (by omega)
      have hz46 := (hu43).size
      have hb5 : Box w42 b0_ [v1, .int .i64 a0_s.at_, .int .i64 (Int.tmod (IntKind.wrap IntKind.i64 ((IntKind.wrap IntKind.i64 (a0_s.seed_ * 48271)) + 11)) 2147483647)] 115 := hb44
      refine TL.done ?_
      refine NX.seq ?_
      refine WC.seq ?_
      refine WC.region ?_
      refine TL.yld rfl rfl (yld_move rfl rfl) ?_
      refine TL.yld rfl rfl (yld_nilCheck rfl rfl) ?_
      refine TL.yld rfl rfl (yld_fieldAddr rfl fo_115_2 rfl) ?_
      refine TL.yld rfl rfl (yld_load1 2 rfl ag_2 rfl (Box.cells hb5) rfl rfl) ?_
      refine TL.yld rfl rfl (yld_quo rfl rfl rfl (by decide)) ?_
      refine TL.yld rfl rfl (yld_move rfl rfl) ?_
      obtain ⟨hn47, hF⟩ := nzero hF
      refine TL.yld rfl rfl (yld_rem rfl rfl rfl hn47) ?_
      refine TL.yld rfl rfl (yld_assign rfl rfl) ?_
      refine TL.done ?_
      refine NX.seq ?_
      refine WC.ret' ?_
      obtain rfl := Option.some.inj hF
      exact NX.end (rs := [.tmp 4]) (vs := [.int .i64 (Int.tmod (IntKind.wrap IntKind.i64 (Int.tdiv (Int.tmod (IntKind.wrap IntKind.i64 ((IntKind.wrap IntKind.i64 (a0_s.seed_ * 48271)) + 11)) 2147483647) 7)) a1_n)]) rfl ⟨rfl, trivial⟩ ⟨_, rfl, rfl, hb5, he45⟩

-- loop.example/g00861/spec.l18Draw
def F_spec_l18Draw_L3 (n : Nat) (a0_s : S_l01Source) (k5 : (List S_LatchLink) → Int → Int → Option (S_LatchSystem × S_l01Source)) : Nat → (List S_LatchLink) → Int → Int → Option (S_LatchSystem × S_l01Source)
  | 0 => fun _ _ _ => none
  | m + 1 => fun l207 i212 i213 => (Option.bind (F_spec_l01Next n ((S_l01Source.mk a0_s.code_ i212 i213)) 2) fun r220 => (bif decide ((l207.length : Int) < IntKind.wrap IntKind.i64 (60 + r220.1)) then (Option.bind (getI l207 0) fun x230 => (Option.bind (appN l207 [x230] 32) fun z250 => (F_spec_l18Draw_L3 n a0_s k5 m z250 r220.2.at_ r220.2.seed_))) else (k5 l207 r220.2.at_ r220.2.seed_)))
theorem F_spec_l18Draw_L3_z (n : Nat) (a0_s : S_l01Source) (k5 : (List S_LatchLink) → Int → Int → Option (S_LatchSystem × S_l01Source)) (l207 : List S_LatchLink) (i212 : Int) (i213 : Int) : F_spec_l18Draw_L3 n a0_s k5 0 l207 i212 i213 = none := rfl
theorem F_spec_l18Draw_L3_s (m : Nat) (n : Nat) (a0_s : S_l01Source) (k5 : (List S_LatchLink) → Int → Int → Option (S_LatchSystem × S_l01Source)) (l207 : List S_LatchLink) (i212 : Int) (i213 : Int) : F_spec_l18Draw_L3 n a0_s k5 (m + 1) l207 i212 i213 = (Option.bind (F_spec_l01Next n ((S_l01Source.mk a0_s.code_ i212 i213)) 2) fun r220 => (bif decide ((l207.length : Int) < IntKind.wrap IntKind.i64 (60 + r220.1)) then (Option.bind (getI l207 0) fun x230 => (Option.bind (appN l207 [x230] 32) fun z250 => (F_spec_l18Draw_L3 n a0_s k5 m z250 r220.2.at_ r220.2.seed_))) else (k5 l207 r220.2.at_ r220.2.seed_))) := rfl

def F_spec_l18Draw_L2 (n : Nat) (a0_s : S_l01Source) (r41 : Int × S_l01Source) (k2 : (List S_LatchLink) → Int → Int → Int → Option (S_LatchSystem × S_l01Source)) : Nat → (List S_LatchLink) → Int → Int → Int → Option (S_LatchSystem × S_l01Source)
  | 0 => fun _ _ _ _ => none
  | m + 1 => fun l77 i81 i83 i84 => (bif decide (i81 > 0) then (Option.bind (F_spec_l01Next n ((S_l01Source.mk a0_s.code_ i83 i84)) r41.1) fun r92 => (Option.bind (F_spec_l01Next n ((S_l01Source.mk a0_s.code_ r92.2.at_ r92.2.seed_)) r41.1) fun r101 => (Option.bind (F_spec_l01Next n ((S_l01Source.mk a0_s.code_ r101.2.at_ r101.2.seed_)) 130) fun r110 => (Option.bind (F_spec_l01Next n ((S_l01Source.mk a0_s.code_ r110.2.at_ r110.2.seed_)) 20) fun r119 => (Option.bind (F_spec_l01Next n ((S_l01Source.mk a0_s.code_ r119.2.at_ r119.2.seed_)) 2) fun r128 => (Option.bind (appN l77 ([(S_LatchLink.mk r92.1 r101.1 r110.1 (IntKind.wrap IntKind.i64 (100 + (IntKind.wrap IntKind.i64 (r119.1 * r128.1)))))]) 32) fun z150 => (F_spec_l18Draw_L2 n a0_s r41 k2 m z150 (IntKind.wrap IntKind.i64 (i81 - 1)) r128.2.at_ r128.2.seed_))))))) else (k2 l77 i81 i83 i84))
theorem F_spec_l18Draw_L2_z (n : Nat) (a0_s : S_l01Source) (r41 : Int × S_l01Source) (k2 : (List S_LatchLink) → Int → Int → Int → Option (S_LatchSystem × S_l01Source)) (l77 : List S_LatchLink) (i81 : Int) (i83 : Int) (i84 : Int) : F_spec_l18Draw_L2 n a0_s r41 k2 0 l77 i81 i83 i84 = none := rfl
theorem F_spec_l18Draw_L2_s (m : Nat) (n : Nat) (a0_s : S_l01Source) (r41 : Int × S_l01Source) (k2 : (List S_LatchLink) → Int → Int → Int → Option (S_LatchSystem × S_l01Source)) (l77 : List S_LatchLink) (i81 : Int) (i83 : Int) (i84 : Int) : F_spec_l18Draw_L2 n a0_s r41 k2 (m + 1) l77 i81 i83 i84 = (bif decide (i81 > 0) then (Option.bind (F_spec_l01Next n ((S_l01Source.mk a0_s.code_ i83 i84)) r41.1) fun r92 => (Option.bind (F_spec_l01Next n ((S_l01Source.mk a0_s.code_ r92.2.at_ r92.2.seed_)) r41.1) fun r101 => (Option.bind (F_spec_l01Next n ((S_l01Source.mk a0_s.code_ r101.2.at_ r101.2.seed_)) 130) fun r110 => (Option.bind (F_spec_l01Next n ((S_l01Source.mk a0_s.code_ r110.2.at_ r110.2.seed_)) 20) fun r119 => (Option.bind (F_spec_l01Next n ((S_l01Source.mk a0_s.code_ r119.2.at_ r119.2.seed_)) 2) fun r128 => (Option.bind (appN l77 ([(S_LatchLink.mk r92.1 r101.1 r110.1 (IntKind.wrap IntKind.i64 (100 + (IntKind.wrap IntKind.i64 (r119.1 * r128.1)))))]) 32) fun z150 => (F_spec_l18Draw_L2 n a0_s r41 k2 m z150 (IntKind.wrap IntKind.i64 (i81 - 1)) r128.2.at_ r128.2.seed_))))))) else (k2 l77 i81 i83 i84)) := rfl

def F_spec_l18Draw_L1 (n : Nat) (a0_s : S_l01Source) (k0 : (List S_Latch) → Int → Int → Int → Option (S_LatchSystem × S_l01Source)) : Nat → (List S_Latch) → Int → Int → Int → Option (S_LatchSystem × S_l01Source)
  | 0 => fun _ _ _ _ => none
  | m + 1 => fun l52 i56 i58 i59 => (bif decide (i56 > 0) then (Option.bind (F_spec_l01Next n ((S_l01Source.mk a0_s.code_ i58 i59)) 50) fun r67 => (Option.bind (F_spec_l01Next n ((S_l01Source.mk a0_s.code_ r67.2.at_ r67.2.seed_)) 60) fun r76 => (Option.bind (appN l52 ([(S_Latch.mk r67.1 (IntKind.wrap IntKind.i64 (r67.1 + r76.1)))]) 16) fun z98 => (F_spec_l18Draw_L1 n a0_s k0 m z98 (IntKind.wrap IntKind.i64 (i56 - 1)) r76.2.at_ r76.2.seed_)))) else (k0 l52 i56 i58 i59))
theorem F_spec_l18Draw_L1_z (n : Nat) (a0_s : S_l01Source) (k0 : (List S_Latch) → Int → Int → Int → Option (S_LatchSystem × S_l01Source)) (l52 : List S_Latch) (i56 : Int) (i58 : Int) (i59 : Int) : F_spec_l18Draw_L1 n a0_s k0 0 l52 i56 i58 i59 = none := rfl
theorem F_spec_l18Draw_L1_s (m : Nat) (n : Nat) (a0_s : S_l01Source) (k0 : (List S_Latch) → Int → Int → Int → Option (S_LatchSystem × S_l01Source)) (l52 : List S_Latch) (i56 : Int) (i58 : Int) (i59 : Int) : F_spec_l18Draw_L1 n a0_s k0 (m + 1) l52 i56 i58 i59 = (bif decide (i56 > 0) then (Option.bind (F_spec_l01Next n ((S_l01Source.mk a0_s.code_ i58 i59)) 50) fun r67 => (Option.bind (F_spec_l01Next n ((S_l01Source.mk a0_s.code_ r67.2.at_ r67.2.seed_)) 60) fun r76 => (Option.bind (appN l52 ([(S_Latch.mk r67.1 (IntKind.wrap IntKind.i64 (r67.1 + r76.1)))]) 16) fun z98 => (F_spec_l18Draw_L1 n a0_s k0 m z98 (IntKind.wrap IntKind.i64 (i56 - 1)) r76.2.at_ r76.2.seed_)))) else (k0 l52 i56 i58 i59)) := rfl

def F_spec_l18Draw (n : Nat) (a0_s : S_l01Source) : Option (S_LatchSystem × S_l01Source) := (Option.bind (F_spec_l01Next n a0_s 6) fun r41 => (F_spec_l18Draw_L1 n a0_s (fun l52 i56 i58 i59 => (Option.bind (F_spec_l01Next n ((S_l01Source.mk a0_s.code_ i58 i59)) (IntKind.wrap IntKind.i64 ((IntKind.wrap IntKind.i64 (3 * r41.1)) + 1))) fun r66 => (F_spec_l18Draw_L2 n a0_s r41 (fun l77 i81 i83 i84 => (bif decide ((l77.length : Int) > 0) then (Option.bind (F_spec_l01Next n ((S_l01Source.mk a0_s.code_ i83 i84)) ((l77.length : Int))) fun r92 => (Option.bind (F_spec_l01Next n ((S_l01Source.mk a0_s.code_ r92.2.at_ r92.2.seed_)) 24) fun r101 => (bif (r101.1 == 0) then (Option.bind (getI l77 r92.1) fun x111 => (some ((S_LatchSystem.mk l52 ((l77.set (r92.1).toNat ((S_LatchLink.mk x111.From r41.1 x111.Delay x111.Shift))))), (S_l01Source.mk a0_s.code_ r101.2.at_ r101.2.seed_)))) else (bif (r101.1 == 1) then (Option.bind (F_spec_l01Next n ((S_l01Source.mk a0_s.code_ r101.2.at_ r101.2.seed_)) 3) fun r143 => (Option.bind (getI ([(-1), 100000, 100001]) r143.1) fun x153 => (Option.bind (getI l77 r92.1) fun x160 => (some ((S_LatchSystem.mk l52 ((l77.set (r92.1).toNat ((S_LatchLink.mk x160.From x160.To x153 x160.Shift))))), (S_l01Source.mk a0_s.code_ r143.2.at_ r143.2.seed_)))))) else (bif (r101.1 == 2) then (Option.bind (getI l52 0) fun x179 => (Option.bind (getI l52 0) fun x186 => (some ((S_LatchSystem.mk ((l52.set (0 : Int).toNat ((S_Latch.mk x186.Open (IntKind.wrap IntKind.i64 (x179.Open - 1)))))) l77), (S_l01Source.mk a0_s.code_ r101.2.at_ r101.2.seed_))))) else (bif (r101.1 == 3) then (F_spec_l18Draw_L3 n a0_s (fun l207 i212 i213 => (some ((S_LatchSystem.mk l52 l207), (S_l01Source.mk a0_s.code_ i212 i213)))) n l77 r101.2.at_ r101.2.seed_) else (bif (r101.1 == 4) then (Option.bind (getI l77 r92.1) fun x277 => (some ((S_LatchSystem.mk l52 ((l77.set (r92.1).toNat ((S_LatchLink.mk x277.From x277.To x277.Delay 0))))), (S_l01Source.mk a0_s.code_ r101.2.at_ r101.2.seed_)))) else (some ((S_LatchSystem.mk l52 l77), (S_l01Source.mk a0_s.code_ r101.2.at_ r101.2.seed_)))))))))) else (some ((S_LatchSystem.mk l52 l77), (S_l01Source.mk a0_s.code_ i83 i84))))) n (([] : List S_LatchLink)) r66.1 r66.2.at_ r66.2.seed_))) n (([] : List S_Latch)) r41.1 r41.2.at_ r41.2.seed_))
set_option maxHeartbeats 40000000 in
theorem W_spec_l18Draw {n : Nat} {a0_s : S_l01Source} {r : S_LatchSystem × S_l01Source} {w : World} {v1 : Value} {lo3 hi4 : Nat} {b0_ : Nat} (hF : F_spec_l18Draw n a0_s = some r) (hb5 : Box w b0_ [v1, .int .i64 a0_s.at_, .int .i64 a0_s.seed_] 115) (ha2 : slRep (cInt .u8) w (Iv lo3 hi4) a0_s.code_ v1) (hh6 : hi4 ≤ w.heap.size) (hh7 : b0_ < lo3 ∨ hi4 ≤ b0_) :
    Calls Try.prog 65 [.pointer (some ⟨b0_, 0, none⟩)].toArray w (Ret fun u w2 => ∃ v0_0 v0_1, u = .agg #[v0_0, v0_1] ∧ ownR C_Latch w2 w.heap.size (Iv 0 0) 50 r.1.Latches v0_0 ∧ ownR C_LatchLink w2 w.heap.size (Iv 0 0) 77 r.1.Links v0_1 ∧ (∀ g q, v0_1.ownBlock = some g → v0_0.ownBlock = some q → g ≠ q) ∧ Box w2 b0_ [v1, .int .i64 r.2.at_, .int .i64 r.2.seed_] 115 ∧ But (pB b0_) w w2) := by
  refine calls_of Try.func65 rfl Try.ntmps65 ?_
  have he0 : But (pB b0_) w w := But.refl _ w
  have := Box.lt hb5
  unfold F_spec_l18Draw at hF
  refine WC.seq ?_
  refine WC.region ?_
  refine TL.eff rfl rfl (eff_alloc rfl zn_38) ?_
  rintro _ w9 ⟨b8, rfl, hn10⟩
  obtain ⟨hn10e, hn10s, hn10x, hb11⟩ := hn10
  have hb11 : Box w9 b8 [.slice none 0 0, .slice none 0 0] 38 := hb11
  have he13 : But (pB b0_) w w9 := But.ext he0 hn10x
  have hb5 := Box.ext hb5 hn10x
  have ha2 := slRep.old ha2 hn10x (by omega)
  have hz14 := (hn10x).size
  have hlo12 : w.heap.size ≤ b8 := by rw [hn10e]; exact (he0).size
  refine TL.done ?_
  refine NX.seq ?_
  refine WC.seq ?_
  refine WC.region ?_
  refine TL.eff rfl rfl (eff_buildSlice (c := C_Latch) (xs := ([] : List S_Latch)) (S := (Iv 0 0)) (uss := []) (out := []) rfl Try.underlying35 in_50 rfl rfl (fillL_all [] rfl rfl rfl) rfl rfl rfl rfl (one_rep (uss := []) (show reps _ _ _ _ _ from trivial) rfl) (fun k h => by have := h.2; omega) rfl) ?_
  rintro v15 w16 ⟨g17, hv18, hg19, hz20, hx21, hs22⟩
  have he23 : But (pB b0_) w w16 := But.ext he13 hx21
  have hb5 := Box.ext hb5 hx21
  have hb11 := Box.ext hb11 hx21
  have ha2 := slRep.old ha2 hx21 (by omega)
  have hz24 := (hx21).size
  have hlo25 : w.heap.size ≤ g17 := by rw [hg19]; exact (he13).size
  have hbd26 := bd_of hv18
  clear hv18
  refine TL.eff rfl rfl (eff_buildSlice (c := C_LatchLink) (xs := ([] : List S_LatchLink)) (S := (Iv 0 0)) (uss := []) (out := []) rfl Try.underlying36 in_77 rfl rfl (fillL_all [] rfl rfl rfl) rfl rfl rfl rfl (one_rep (uss := []) (show reps _ _ _ _ _ from trivial) rfl) (fun k h => by have := h.2; omega) rfl) ?_
  rintro v28 w29 ⟨g30, hv31, hg32, hz33, hx34, hs35⟩
  have he36 : But (pB b0_) w w29 := But.ext he23 hx34
  have hb5 := Box.ext hb5 hx34
  have hb11 := Box.ext hb11 hx34
  have ha2 := slRep.old ha2 hx34 (by omega)
  have hs22 := ownR.ext hs22 hx34
  have hz37 := (hx34).size
  have hlo38 : w.heap.size ≤ g30 := by rw [hg32]; exact (he23).size
  have hbd39 := bd_of hv31
  clear hv31
  refine TL.yld rfl rfl (yld_assign rfl rfl) ?_
  refine TL.yld rfl rfl (yld_assign rfl rfl) ?_
  refine TL.done ?_
  refine NX.seq ?_
  refine WC.seq ?_
  refine WC.region ?_
  refine TL.yld rfl rfl (yld_move rfl rfl) ?_
  obtain ⟨r41, hr42, hF⟩ := bsome hF
  refine TL.eff rfl rfl (eff_call rfl gf_93 rfl (W_spec_l01Next hr42 hb5 ha2 (by omega) (by omega))) ?_
  rintro _ w43 ⟨rfl, hb45, hx44⟩
  have he46 : But (pB b0_) w w43 := But.but he36 hx44 (all_pB (Or.inl rfl))
  have hb11 := Box.but hb11 hx44 (all_pB (by omega))
  have ha2 := slRep.but ha2 hx44 (all_pB (by omega)) (by omega)
  have hp47 : ∀ g, v15.ownBlock = some g → g ≠ b0_ := (fun g hg => by have := hbd26 g hg; omega)
  have hs22 := ownR.butF hs22 hx44 (all_pB (fun g hg e => hp47 g hg e.symm))
  have hp48 : ∀ g, v28.ownBlock = some g → g ≠ b0_ := (fun g hg => by have := hbd39 g hg; omega)
  have hs35 := ownR.butF hs35 hx44 (all_pB (fun g hg e => hp48 g hg e.symm))
  have hz49 := (hx44).size
  refine TL.yld rfl rfl (yld_assign rfl rfl) ?_
  refine TL.done ?_
  refine NX.seq ?_
  refine WC.seq ?_
  refine WC.seq ?_
  refine WC.region ?_
  refine TL.yld rfl rfl (yld_move rfl rfl) ?_
  refine TL.yld rfl rfl (yld_assign rfl rfl) ?_
  refine TL.done ?_
  refine NX.seq ?_
  refine WC.block ?_
  refine WC.loop (fun m66 a wl => ∃ (l52 : List S_Latch) (v53 : Value) (i56 : Int) (i58 : Int) (i59 : Int), Kn 117 [(0, .pointer (some ⟨b0_, 0, none⟩)), (2, .pointer (some ⟨b8, 0, none⟩)), (3, v53), (4, v28), (5, .int .i64 r41.1), (6, .int .i64 i56)] a ∧ But (pB b0_) w wl ∧ w43.heap.size ≤ wl.heap.size ∧ Box wl b0_ [v1, .int .i64 i58, .int .i64 i59] 115 ∧ Box wl b8 [.slice none 0 0, .slice none 0 0] 38 ∧ slRep (cInt .u8) wl (Iv lo3 hi4) a0_s.code_ v1 ∧ ownR C_Latch wl (g17) (Iv 0 0) 50 l52 v53 ∧ (∀ q, v53.ownBlock = some q → g17 ≤ q ∧ q < wl.heap.size) ∧ ownR C_LatchLink wl (g30) (Iv 0 0) 77 (([] : List S_LatchLink)) v28 ∧ (∀ g, v53.ownBlock = some g → g ≠ b0_) ∧ (∀ g, v53.ownBlock = some g → g ≠ b8) ∧ (∀ g q, v53.ownBlock = some g → v28.ownBlock = some q → g ≠ q) ∧ F_spec_l18Draw_L1 n a0_s (fun l52 i56 i58 i59 => (Option.bind (F_spec_l01Next n ((S_l01Source.mk a0_s.code_ i58 i59)) (IntKind.wrap IntKind.i64 ((IntKind.wrap IntKind.i64 (3 * r41.1)) + 1))) fun r66 => (F_spec_l18Draw_L2 n a0_s r41 (fun l77 i81 i83 i84 => (bif decide ((l77.length : Int) > 0) then (Option.bind (F_spec_l01Next n ((S_l01Source.mk a0_s.code_ i83 i84)) ((l77.length : Int))) fun r92 => (Option.bind (F_spec_l01Next n ((S_l01Source.mk a0_s.code_ r92.2.at_ r92.2.seed_)) 24) fun r101 => (bif (r101.1 == 0) then (Option.bind (getI l77 r92.1) fun x111 => (some ((S_LatchSystem.mk l52 ((l77.set (r92.1).toNat ((S_LatchLink.mk x111.From r41.1 x111.Delay x111.Shift))))), (S_l01Source.mk a0_s.code_ r101.2.at_ r101.2.seed_)))) else (bif (r101.1 == 1) then (Option.bind (F_spec_l01Next n ((S_l01Source.mk a0_s.code_ r101.2.at_ r101.2.seed_)) 3) fun r143 => (Option.bind (getI ([(-1), 100000, 100001]) r143.1) fun x153 => (Option.bind (getI l77 r92.1) fun x160 => (some ((S_LatchSystem.mk l52 ((l77.set (r92.1).toNat ((S_LatchLink.mk x160.From x160.To x153 x160.Shift))))), (S_l01Source.mk a0_s.code_ r143.2.at_ r143.2.seed_)))))) else (bif (r101.1 == 2) then (Option.bind (getI l52 0) fun x179 => (Option.bind (getI l52 0) fun x186 => (some ((S_LatchSystem.mk ((l52.set (0 : Int).toNat ((S_Latch.mk x186.Open (IntKind.wrap IntKind.i64 (x179.Open - 1)))))) l77), (S_l01Source.mk a0_s.code_ r101.2.at_ r101.2.seed_))))) else (bif (r101.1 == 3) then (F_spec_l18Draw_L3 n a0_s (fun l207 i212 i213 => (some ((S_LatchSystem.mk l52 l207), (S_l01Source.mk a0_s.code_ i212 i213)))) n l77 r101.2.at_ r101.2.seed_) else (bif (r101.1 == 4) then (Option.bind (getI l77 r92.1) fun x277 => (some ((S_LatchSystem.mk l52 ((l77.set (r92.1).toNat ((S_LatchLink.mk x277.From x277.To x277.Delay 0))))), (S_l01Source.mk a0_s.code_ r101.2.at_ r101.2.seed_)))) else (some ((S_LatchSystem.mk l52 l77), (S_l01Source.mk a0_s.code_ r101.2.at_ r101.2.seed_)))))))))) else (some ((S_LatchSystem.mk l52 l77), (S_l01Source.mk a0_s.code_ i83 i84))))) n (([] : List S_LatchLink)) r66.1 r66.2.at_ r66.2.seed_))) m66 l52 i56 i58 i59 = some r) n ?_ ?_
  · intro a hK; exact ⟨(([] : List S_Latch)), v15, r41.1, r41.2.at_, r41.2.seed_, hK.weaken ⟨rfl, rfl, rfl, rfl, rfl, rfl, trivial⟩, he46, Nat.le_refl _, hb45, hb11, ha2, hs22, (fun g hg => by have := hbd26 g hg; omega), hs35, (fun g hg => by have := hbd26 g hg; omega), (fun g hg => by have := hbd26 g hg; omega), (fun g q hg hq => by have := hbd26 g hg; have := hbd39 q hq; omega), hF⟩
  · rintro m66 a w50 ⟨l52, v53, i56, i58, i59, hK, he51, hz67, hb57, hb60, hs62, hs54, hbd55, hs61, hp63, hp64, hp65, hF⟩
    revert hK; revert a; refine (?_ : WC _ _ _ _ _ _)
    cases m66 with
    | zero => rw [F_spec_l18Draw_L1_z] at hF; cases hF
    | succ m66 =>
      rw [F_spec_l18Draw_L1_s] at hF
      refine WC.seq ?_
      refine WC.seq ?_
      refine WC.region ?_
      refine TL.yld rfl rfl (yld_move rfl rfl) ?_
      refine TL.yld rfl rfl (yld_gtr rfl rfl rfl) ?_
      refine TL.done ?_
      refine NX.seq ?_
      refine WC.cond rfl ?_ ?_
      · intro hc68
        replace hF := bif_t hc68 hF
        refine WC.skip' ?_
        refine NX.seq ?_
        refine WC.seq ?_
        refine WC.block ?_
        refine WC.seq ?_
        refine WC.region ?_
        refine TL.yld rfl rfl (yld_move rfl rfl) ?_
        obtain ⟨r69, hr70, hF⟩ := bsome hF
        refine TL.eff rfl rfl (eff_call rfl gf_93 rfl (W_spec_l01Next hr70 hb57 hs62 (by omega) (by omega))) ?_
        rintro _ w71 ⟨rfl, hb73, hx72⟩
        have he74 : But (pB b0_) w w71 := But.but he51 hx72 (all_pB (Or.inl rfl))
        have hb60 := Box.but hb60 hx72 (all_pB (by omega))
        have hs62 := slRep.but hs62 hx72 (all_pB (by omega)) (by omega)
        have hp75 : ∀ g, v53.ownBlock = some g → g ≠ b0_ := hp63
        have hs54 := ownR.butF hs54 hx72 (all_pB (fun g hg e => hp75 g hg e.symm))
        have hp76 : ∀ g, v28.ownBlock = some g → g ≠ b0_ := (fun g hg => by have := hbd39 g hg; omega)
        have hs61 := ownR.butF hs61 hx72 (all_pB (fun g hg e => hp76 g hg e.symm))
        have hz77 := (hx72).size
        refine TL.yld rfl rfl (yld_assign rfl rfl) ?_
        refine TL.done ?_
        refine NX.seq ?_
        refine WC.region ?_
        refine TL.yld rfl rfl (yld_move rfl rfl) ?_
        refine TL.yld rfl rfl (yld_move rfl rfl) ?_
        refine TL.yld rfl rfl (yld_move rfl rfl) ?_
        refine TL.yld rfl rfl (yld_move rfl rfl) ?_
        obtain ⟨r78, hr79, hF⟩ := bsome hF
        refine TL.eff rfl rfl (eff_call rfl gf_93 rfl (W_spec_l01Next hr79 hb73 hs62 (by omega) (by omega))) ?_
        rintro _ w80 ⟨rfl, hb82, hx81⟩
        have he83 : But (pB b0_) w w80 := But.but he74 hx81 (all_pB (Or.inl rfl))
        have hb60 := Box.but hb60 hx81 (all_pB (by omega))
        have hs62 := slRep.but hs62 hx81 (all_pB (by omega)) (by omega)
        have hp84 : ∀ g, v53.ownBlock = some g → g ≠ b0_ := hp63
        have hs54 := ownR.butF hs54 hx81 (all_pB (fun g hg e => hp84 g hg e.symm))
        have hp85 : ∀ g, v28.ownBlock = some g → g ≠ b0_ := (fun g hg => by have := hbd39 g hg; omega)
        have hs61 := ownR.butF hs61 hx81 (all_pB (fun g hg e => hp85 g hg e.symm))
        have hz86 := (hx81).size
        refine TL.yld rfl rfl (yld_add rfl rfl rfl) ?_
        refine TL.yld rfl rfl (yld_build (uss := [(0, [.int .i64 r69.1]), (1, [.int .i64 (IntKind.wrap IntKind.i64 (r69.1 + r78.1))])]) (out := [.int .i64 r69.1, .int .i64 (IntKind.wrap IntKind.i64 (r69.1 + r78.1))]) rfl rfl zn_50 pl_50 rfl rfl) ?_
        refine TL.eff rfl rfl (eff_buildSlice (c := C_Latch) (xs := [(S_Latch.mk r69.1 (IntKind.wrap IntKind.i64 (r69.1 + r78.1)))]) (S := (Iv 0 0)) (uss := [(0, [.int .i64 r69.1, .int .i64 (IntKind.wrap IntKind.i64 (r69.1 + r78.1))])]) (out := [.int .i64 r69.1, .int .i64 (IntKind.wrap IntKind.i64 (r69.1 + r78.1))]) rfl Try.underlying35 in_50 rfl rfl (fillL_all [[.int .i64 r69.1, .int .i64 (IntKind.wrap IntKind.i64 (r69.1 + r78.1))]] rfl rfl rfl) rfl rfl rfl rfl (one_rep (uss := [[.int .i64 r69.1, .int .i64 (IntKind.wrap IntKind.i64 (r69.1 + r78.1))]]) (show reps _ _ _ _ _ from ⟨C_Latch_mk, trivial⟩) rfl) (fun k h => by have := h.2; omega) rfl) ?_
        rintro v87 w88 ⟨g89, hv90, hg91, hz92, hx93, hs94⟩
        have he95 : But (pB b0_) w w88 := But.ext he83 hx93
        have hb82 := Box.ext hb82 hx93
        have hb60 := Box.ext hb60 hx93
        have hs62 := slRep.old hs62 hx93 (by omega)
        have hs54 := ownR.ext hs54 hx93
        have hs61 := ownR.ext hs61 hx93
        have hz96 := (hx93).size
        have hlo97 : w.heap.size ≤ g89 := by rw [hg91]; exact (he83).size
        have hbd98 := bd_of hv90
        clear hv90
        obtain ⟨z100, ha101, hF⟩ := bsome hF
        refine TL.eff rfl rfl (eff_appendF (c := C_Latch) rfl Try.underlying35 in_50 rfl rfl rfl rfl rfl hs54 (by omega) (ownR.slf hs94 (Nat.le_refl _) (Nat.le_refl _)) ha101) ?_
        rintro v102 w103 ⟨hs104, hgr105⟩
        have he107 : But (pB b0_) w w103 := But.grow he95 hgr105 (fun g hg => (Or.inr (by have := hbd55 g hg; omega)))
        have hp108 : ∀ g, v102.ownBlock = some g → g ≠ b0_ := Grew.sepP (p := fun g => g ≠ b0_) hgr105 hp63 (fun g hg => by omega)
        have hb82 := Grew.box hgr105 hb82 hp63
        have hp109 : ∀ g, v102.ownBlock = some g → g ≠ b8 := Grew.sepP (p := fun g => g ≠ b8) hgr105 hp64 (fun g hg => by omega)
        have hb60 := Grew.box hgr105 hb60 hp64
        have hp110 : ∀ g, v102.ownBlock = some g → g < lo3 ∨ hi4 ≤ g := Grew.sepP (p := fun g => g < lo3 ∨ hi4 ≤ g) hgr105 (fun g hg => by have := hbd55 g hg; omega) (fun g hg => by omega)
        have hs62 := Grew.slr hgr105 hs62 (fun g hg => by have := hbd55 g hg; omega) (by omega)
        have hp111 : ∀ g q, v53.ownBlock = some g → v28.ownBlock = some q → g ≠ q := hp65
        have hp112 : ∀ g q, v102.ownBlock = some g → v28.ownBlock = some q → g ≠ q := fun g q hg hq => Grew.sepP (p := fun g => ∀ q, v28.ownBlock = some q → g ≠ q) hgr105 (fun g hg q hq => (hp111) g q hg hq) (fun g hg q hq => by have := hbd39 q hq; omega) g hg q hq
        have hs61 := Grew.ownF hgr105 hs61 hp111
        have hp113 : ∀ g q, v53.ownBlock = some g → v87.ownBlock = some q → g ≠ q := (fun g q hg hq => by have := hbd55 g hg; have := hbd98 q hq; omega)
        have hp114 : ∀ g q, v102.ownBlock = some g → v87.ownBlock = some q → g ≠ q := fun g q hg hq => Grew.sepP (p := fun g => ∀ q, v87.ownBlock = some q → g ≠ q) hgr105 (fun g hg q hq => (hp113) g q hg hq) (fun g hg q hq => by have := hbd98 q hq; omega) g hg q hq
        have hs94 := Grew.ownF hgr105 hs94 hp113
        have hz115 := (hgr105).1.size
        have hbd116 : ∀ g, v102.ownBlock = some g → g17 ≤ g ∧ g < w103.heap.size := Grew.bd hgr105 hs104 (fun g hg => ⟨by have := hbd55 g hg; omega, (hbd55 g hg).2⟩) (by omega) (by omega)
        refine TL.yld rfl rfl (yld_assign rfl rfl) ?_
        refine TL.done ?_
        refine NX.blk_n ?_
        refine NX.seq ?_
        refine WC.region ?_
        refine TL.yld rfl rfl (yld_move rfl rfl) ?_
        refine TL.yld rfl rfl (yld_sub rfl rfl rfl) ?_
        refine TL.yld rfl rfl (yld_assign rfl rfl) ?_
        refine TL.done ?_
        refine NX.then_n ?_
        intro a hK; exact ⟨m66, Nat.lt_succ_self m66, z100, v102, (IntKind.wrap IntKind.i64 (i56 - 1)), r78.2.at_, r78.2.seed_, hK.weaken ⟨rfl, rfl, rfl, rfl, rfl, rfl, trivial⟩, he107, (by omega), hb82, hb60, hs62, hs104, (fun g hg => by have := hbd116 g hg; omega), hs61, hp108, hp109, hp112, hF⟩
      · intro hc117
        replace hF := bif_f hc117 hF
        refine WC.exit' ?_
        refine NX.then_e ?_
        refine NX.then_e ?_
        refine NX.blk_hit ?_
        refine NX.seq ?_
        refine WC.seq ?_
        refine WC.seq ?_
        refine WC.region ?_
        refine TL.yld rfl rfl (yld_move rfl rfl) ?_
        refine TL.yld rfl rfl (yld_move rfl rfl) ?_
        refine TL.yld rfl rfl (yld_mul rfl rfl rfl) ?_
        refine TL.yld rfl rfl (yld_add rfl rfl rfl) ?_
        obtain ⟨r118, hr119, hF⟩ := bsome hF
        refine TL.eff rfl rfl (eff_call rfl gf_93 rfl (W_spec_l01Next hr119 hb57 hs62 (by omega) (by omega))) ?_
        rintro _ w120 ⟨rfl, hb122, hx121⟩
        have he123 : But (pB b0_) w w120 := But.but he51 hx121 (all_pB (Or.inl rfl))
        have hb60 := Box.but hb60 hx121 (all_pB (by omega))
        have hs62 := slRep.but hs62 hx121 (all_pB (by omega)) (by omega)
        have hp124 : ∀ g, v53.ownBlock = some g → g ≠ b0_ := hp63
        have hs54 := ownR.butF hs54 hx121 (all_pB (fun g hg e => hp124 g hg e.symm))
        have hp125 : ∀ g, v28.ownBlock = some g → g ≠ b0_ := (fun g hg => by have := hbd39 g hg; omega)
        have hs61 := ownR.butF hs61 hx121 (all_pB (fun g hg e => hp125 g hg e.symm))
        have hz126 := (hx121).size
        refine TL.yld rfl rfl (yld_assign rfl rfl) ?_
        refine TL.done ?_
        refine NX.seq ?_
        refine WC.block ?_
        refine WC.loop (fun m143 a wl => ∃ (l129 : List S_LatchLink) (v130 : Value) (i133 : Int) (i135 : Int) (i136 : Int), Kn 117 [(0, .pointer (some ⟨b0_, 0, none⟩)), (2, .pointer (some ⟨b8, 0, none⟩)), (3, v53), (4, v130), (5, .int .i64 r41.1), (8, .int .i64 i133)] a ∧ But (pB b0_) w wl ∧ w120.heap.size ≤ wl.heap.size ∧ Box wl b0_ [v1, .int .i64 i135, .int .i64 i136] 115 ∧ Box wl b8 [.slice none 0 0, .slice none 0 0] 38 ∧ slRep (cInt .u8) wl (Iv lo3 hi4) a0_s.code_ v1 ∧ ownR C_LatchLink wl (g30) (Iv 0 0) 77 l129 v130 ∧ (∀ q, v130.ownBlock = some q → g30 ≤ q ∧ q < wl.heap.size) ∧ ownR C_Latch wl (g17) (Iv 0 0) 50 l52 v53 ∧ (∀ g, v130.ownBlock = some g → g ≠ b0_) ∧ (∀ g, v130.ownBlock = some g → g ≠ b8) ∧ (∀ g q, v130.ownBlock = some g → v53.ownBlock = some q → g ≠ q) ∧ F_spec_l18Draw_L2 n a0_s r41 (fun l129 i133 i135 i136 => (bif decide ((l129.length : Int) > 0) then (Option.bind (F_spec_l01Next n ((S_l01Source.mk a0_s.code_ i135 i136)) ((l129.length : Int))) fun r144 => (Option.bind (F_spec_l01Next n ((S_l01Source.mk a0_s.code_ r144.2.at_ r144.2.seed_)) 24) fun r153 => (bif (r153.1 == 0) then (Option.bind (getI l129 r144.1) fun x163 => (some ((S_LatchSystem.mk l52 ((l129.set (r144.1).toNat ((S_LatchLink.mk x163.From r41.1 x163.Delay x163.Shift))))), (S_l01Source.mk a0_s.code_ r153.2.at_ r153.2.seed_)))) else (bif (r153.1 == 1) then (Option.bind (F_spec_l01Next n ((S_l01Source.mk a0_s.code_ r153.2.at_ r153.2.seed_)) 3) fun r195 => (Option.bind (getI ([(-1), 100000, 100001]) r195.1) fun x205 => (Option.bind (getI l129 r144.1) fun x212 => (some ((S_LatchSystem.mk l52 ((l129.set (r144.1).toNat ((S_LatchLink.mk x212.From x212.To x205 x212.Shift))))), (S_l01Source.mk a0_s.code_ r195.2.at_ r195.2.seed_)))))) else (bif (r153.1 == 2) then (Option.bind (getI l52 0) fun x231 => (Option.bind (getI l52 0) fun x238 => (some ((S_LatchSystem.mk ((l52.set (0 : Int).toNat ((S_Latch.mk x238.Open (IntKind.wrap IntKind.i64 (x231.Open - 1)))))) l129), (S_l01Source.mk a0_s.code_ r153.2.at_ r153.2.seed_))))) else (bif (r153.1 == 3) then (F_spec_l18Draw_L3 n a0_s (fun l259 i264 i265 => (some ((S_LatchSystem.mk l52 l259), (S_l01Source.mk a0_s.code_ i264 i265)))) n l129 r153.2.at_ r153.2.seed_) else (bif (r153.1 == 4) then (Option.bind (getI l129 r144.1) fun x329 => (some ((S_LatchSystem.mk l52 ((l129.set (r144.1).toNat ((S_LatchLink.mk x329.From x329.To x329.Delay 0))))), (S_l01Source.mk a0_s.code_ r153.2.at_ r153.2.seed_)))) else (some ((S_LatchSystem.mk l52 l129), (S_l01Source.mk a0_s.code_ r153.2.at_ r153.2.seed_)))))))))) else (some ((S_LatchSystem.mk l52 l129), (S_l01Source.mk a0_s.code_ i135 i136))))) m143 l129 i133 i135 i136 = some r) n ?_ ?_
        · intro a hK; exact ⟨(([] : List S_LatchLink)), v28, r118.1, r118.2.at_, r118.2.seed_, hK.weaken ⟨rfl, rfl, rfl, rfl, rfl, rfl, trivial⟩, he123, Nat.le_refl _, hb122, hb60, hs62, hs61, (fun g hg => by have := hbd39 g hg; omega), hs54, (fun g hg => by have := hbd39 g hg; omega), (fun g hg => by have := hbd39 g hg; omega), (fun g q hg hq e => hp65 q g hq hg e.symm), hF⟩
        · rintro m143 a w127 ⟨l129, v130, i133, i135, i136, hK, he128, hz144, hb134, hb137, hs139, hs131, hbd132, hs138, hp140, hp141, hp142, hF⟩
          revert hK; revert a; refine (?_ : WC _ _ _ _ _ _)
          cases m143 with
          | zero => rw [F_spec_l18Draw_L2_z] at hF; cases hF
          | succ m143 =>
            rw [F_spec_l18Draw_L2_s] at hF
            refine WC.seq ?_
            refine WC.seq ?_
            refine WC.region ?_
            refine TL.yld rfl rfl (yld_move rfl rfl) ?_
            refine TL.yld rfl rfl (yld_gtr rfl rfl rfl) ?_
            refine TL.done ?_
            refine NX.seq ?_
            refine WC.cond rfl ?_ ?_
            · intro hc145
              replace hF := bif_t hc145 hF
              refine WC.skip' ?_
              refine NX.seq ?_
              refine WC.seq ?_
              refine WC.block ?_
              refine WC.region ?_
              refine TL.yld rfl rfl (yld_move rfl rfl) ?_
              refine TL.yld rfl rfl (yld_move rfl rfl) ?_
              refine TL.yld rfl rfl (yld_move rfl rfl) ?_
              obtain ⟨r146, hr147, hF⟩ := bsome hF
              refine TL.eff rfl rfl (eff_call rfl gf_93 rfl (W_spec_l01Next hr147 hb134 hs139 (by omega) (by omega))) ?_
              rintro _ w148 ⟨rfl, hb150, hx149⟩
              have he151 : But (pB b0_) w w148 := But.but he128 hx149 (all_pB (Or.inl rfl))
              have hb137 := Box.but hb137 hx149 (all_pB (by omega))
              have hs139 := slRep.but hs139 hx149 (all_pB (by omega)) (by omega)
              have hp152 : ∀ g, v130.ownBlock = some g → g ≠ b0_ := hp140
              have hs131 := ownR.butF hs131 hx149 (all_pB (fun g hg e => hp152 g hg e.symm))
              have hp153 : ∀ g, v53.ownBlock = some g → g ≠ b0_ := hp63
              have hs138 := ownR.butF hs138 hx149 (all_pB (fun g hg e => hp153 g hg e.symm))
              have hz154 := (hx149).size
              refine TL.yld rfl rfl (yld_move rfl rfl) ?_
              refine TL.yld rfl rfl (yld_move rfl rfl) ?_
              obtain ⟨r155, hr156, hF⟩ := bsome hF
              refine TL.eff rfl rfl (eff_call rfl gf_93 rfl (W_spec_l01Next hr156 hb150 hs139 (by omega) (by omega))) ?_
              rintro _ w157 ⟨rfl, hb159, hx158⟩
              have he160 : But (pB b0_) w w157 := But.but he151 hx158 (all_pB (Or.inl rfl))
              have hb137 := Box.but hb137 hx158 (all_pB (by omega))
              have hs139 := slRep.but hs139 hx158 (all_pB (by omega)) (by omega)
              have hp161 : ∀ g, v130.ownBlock = some g → g ≠ b0_ := hp140
              have hs131 := ownR.butF hs131 hx158 (all_pB (fun g hg e => hp161 g hg e.symm))
              have hp162 : ∀ g, v53.ownBlock = some g → g ≠ b0_ := hp63
              have hs138 := ownR.butF hs138 hx158 (all_pB (fun g hg e => hp162 g hg e.symm))
              have hz163 := (hx158).size
              refine TL.yld rfl rfl (yld_move rfl rfl) ?_
              obtain ⟨r164, hr165, hF⟩ := bsome hF
              refine TL.eff rfl rfl (eff_call rfl gf_93 rfl (W_spec_l01Next hr165 hb159 hs139 (by omega) (by omega))) ?_
              rintro _ w166 ⟨rfl, hb168, hx167⟩
              have he169 : But (pB b0_) w w166 := But.but he160 hx167 (all_pB (Or.inl rfl))
              have hb137 := Box.but hb137 hx167 (all_pB (by omega))
              have hs139 := slRep.but hs139 hx167 (all_pB (by omega)) (by omega)
              have hp170 : ∀ g, v130.ownBlock = some g → g ≠ b0_ := hp140
              have hs131 := ownR.butF hs131 hx167 (all_pB (fun g hg e => hp170 g hg e.symm))
              have hp171 : ∀ g, v53.ownBlock = some g → g ≠ b0_ := hp63
              have hs138 := ownR.butF hs138 hx167 (all_pB (fun g hg e => hp171 g hg e.symm))
              have hz172 := (hx167).size
              refine TL.yld rfl rfl (yld_move rfl rfl) ?_
              obtain ⟨r173, hr174, hF⟩ := bsome hF
              refine TL.eff rfl rfl (eff_call rfl gf_93 rfl (W_spec_l01Next hr174 hb168 hs139 (by omega) (by omega))) ?_
              rintro _ w175 ⟨rfl, hb177, hx176⟩
              have he178 : But (pB b0_) w w175 := But.but he169 hx176 (all_pB (Or.inl rfl))
              have hb137 := Box.but hb137 hx176 (all_pB (by omega))
              have hs139 := slRep.but hs139 hx176 (all_pB (by omega)) (by omega)
              have hp179 : ∀ g, v130.ownBlock = some g → g ≠ b0_ := hp140
              have hs131 := ownR.butF hs131 hx176 (all_pB (fun g hg e => hp179 g hg e.symm))
              have hp180 : ∀ g, v53.ownBlock = some g → g ≠ b0_ := hp63
              have hs138 := ownR.butF hs138 hx176 (all_pB (fun g hg e => hp180 g hg e.symm))
              have hz181 := (hx176).size
              refine TL.yld rfl rfl (yld_move rfl rfl) ?_
              obtain ⟨r182, hr183, hF⟩ := bsome hF
              refine TL.eff rfl rfl (eff_call rfl gf_93 rfl (W_spec_l01Next hr183 hb177 hs139 (by omega) (by omega))) ?_
              rintro _ w184 ⟨rfl, hb186, hx185⟩
              have he187 : But (pB b0_) w w184 := But.but he178 hx185 (all_pB (Or.inl rfl))
              have hb137 := Box.but hb137 hx185 (all_pB (by omega))
              have hs139 := slRep.but hs139 hx185 (all_pB (by omega)) (by omega)
              have hp188 : ∀ g, v130.ownBlock = some g → g ≠ b0_ := hp140
              have hs131 := ownR.butF hs131 hx185 (all_pB (fun g hg e => hp188 g hg e.symm))
              have hp189 : ∀ g, v53.ownBlock = some g → g ≠ b0_ := hp63
              have hs138 := ownR.butF hs138 hx185 (all_pB (fun g hg e => hp189 g hg e.symm))
              have hz190 := (hx185).size
              refine TL.yld rfl rfl (yld_mul rfl rfl rfl) ?_
              refine TL.yld rfl rfl (yld_add rfl rfl rfl) ?_
              refine TL.yld rfl rfl (yld_build (uss := [(0, [.int .i64 r146.1]), (1, [.int .i64 r155.1]), (2, [.int .i64 r164.1]), (3, [.int .i64 (IntKind.wrap IntKind.i64 (100 + (IntKind.wrap IntKind.i64 (r173.1 * r182.1))))])]) (out := [.int .i64 r146.1, .int .i64 r155.1, .int .i64 r164.1, .int .i64 (IntKind.wrap IntKind.i64 (100 + (IntKind.wrap IntKind.i64 (r173.1 * r182.1))))]) rfl rfl zn_77 pl_77 rfl rfl) ?_
              refine TL.eff rfl rfl (eff_buildSlice (c := C_LatchLink) (xs := [(S_LatchLink.mk r146.1 r155.1 r164.1 (IntKind.wrap IntKind.i64 (100 + (IntKind.wrap IntKind.i64 (r173.1 * r182.1)))))]) (S := (Iv 0 0)) (uss := [(0, [.int .i64 r146.1, .int .i64 r155.1, .int .i64 r164.1, .int .i64 (IntKind.wrap IntKind.i64 (100 + (IntKind.wrap IntKind.i64 (r173.1 * r182.1))))])]) (out := [.int .i64 r146.1, .int .i64 r155.1, .int .i64 r164.1, .int .i64 (IntKind.wrap IntKind.i64 (100 + (IntKind.wrap IntKind.i64 (r173.1 * r182.1))))]) rfl Try.underlying36 in_77 rfl rfl (fillL_all [[.int .i64 r146.1, .int .i64 r155.1, .int .i64 r164.1, .int .i64 (IntKind.wrap IntKind.i64 (100 + (IntKind.wrap IntKind.i64 (r173.1 * r182.1))))]] rfl rfl rfl) rfl rfl rfl rfl (one_rep (uss := [[.int .i64 r146.1, .int .i64 r155.1, .int .i64 r164.1, .int .i64 (IntKind.wrap IntKind.i64 (100 + (IntKind.wrap IntKind.i64 (r173.1 * r182.1))))]]) (show reps _ _ _ _ _ from ⟨C_LatchLink_mk, trivial⟩) rfl) (fun k h => by have := h.2; omega) rfl) ?_
              rintro v191 w192 ⟨g193, hv194, hg195, hz196, hx197, hs198⟩
              have he199 : But (pB b0_) w w192 := But.ext he187 hx197
              have hb186 := Box.ext hb186 hx197
              have hb137 := Box.ext hb137 hx197
              have hs139 := slRep.old hs139 hx197 (by omega)
              have hs131 := ownR.ext hs131 hx197
              have hs138 := ownR.ext hs138 hx197
              have hz200 := (hx197).size
              have hlo201 : w.heap.size ≤ g193 := by rw [hg195]; exact (he187).size
              have hbd202 := bd_of hv194
              clear hv194
              obtain ⟨z204, ha205, hF⟩ := bsome hF
              refine TL.eff rfl rfl (eff_appendF (c := C_LatchLink) rfl Try.underlying36 in_77 rfl rfl rfl rfl rfl hs131 (by omega) (ownR.slf hs198 (Nat.le_refl _) (Nat.le_refl _)) ha205) ?_
              rintro v206 w207 ⟨hs208, hgr209⟩
              have he211 : But (pB b0_) w w207 := But.grow he199 hgr209 (fun g hg => (Or.inr (by have := hbd132 g hg; omega)))
              have hp212 : ∀ g, v206.ownBlock = some g → g ≠ b0_ := Grew.sepP (p := fun g => g ≠ b0_) hgr209 hp140 (fun g hg => by omega)
              have hb186 := Grew.box hgr209 hb186 hp140
              have hp213 : ∀ g, v206.ownBlock = some g → g ≠ b8 := Grew.sepP (p := fun g => g ≠ b8) hgr209 hp141 (fun g hg => by omega)
              have hb137 := Grew.box hgr209 hb137 hp141
              have hp214 : ∀ g, v206.ownBlock = some g → g < lo3 ∨ hi4 ≤ g := Grew.sepP (p := fun g => g < lo3 ∨ hi4 ≤ g) hgr209 (fun g hg => by have := hbd132 g hg; omega) (fun g hg => by omega)
              have hs139 := Grew.slr hgr209 hs139 (fun g hg => by have := hbd132 g hg; omega) (by omega)
              have hp215 : ∀ g q, v130.ownBlock = some g → v53.ownBlock = some q → g ≠ q := hp142
              have hp216 : ∀ g q, v206.ownBlock = some g → v53.ownBlock = some q → g ≠ q := fun g q hg hq => Grew.sepP (p := fun g => ∀ q, v53.ownBlock = some q → g ≠ q) hgr209 (fun g hg q hq => (hp215) g q hg hq) (fun g hg q hq => by have := hbd55 q hq; omega) g hg q hq
              have hs138 := Grew.ownF hgr209 hs138 hp215
              have hp217 : ∀ g q, v130.ownBlock = some g → v191.ownBlock = some q → g ≠ q := (fun g q hg hq => by have := hbd132 g hg; have := hbd202 q hq; omega)
              have hp218 : ∀ g q, v206.ownBlock = some g → v191.ownBlock = some q → g ≠ q := fun g q hg hq => Grew.sepP (p := fun g => ∀ q, v191.ownBlock = some q → g ≠ q) hgr209 (fun g hg q hq => (hp217) g q hg hq) (fun g hg q hq => by have := hbd202 q hq; omega) g hg q hq
              have hs198 := Grew.ownF hgr209 hs198 hp217
              have hz219 := (hgr209).1.size
              have hbd220 : ∀ g, v206.ownBlock = some g → g30 ≤ g ∧ g < w207.heap.size := Grew.bd hgr209 hs208 (fun g hg => ⟨by have := hbd132 g hg; omega, (hbd132 g hg).2⟩) (by omega) (by omega)
              refine TL.yld rfl rfl (yld_assign rfl rfl) ?_
              refine TL.done ?_
              refine NX.blk_n ?_
              refine NX.seq ?_
              refine WC.region ?_
              refine TL.yld rfl rfl (yld_move rfl rfl) ?_
              refine TL.yld rfl rfl (yld_sub rfl rfl rfl) ?_
              refine TL.yld rfl rfl (yld_assign rfl rfl) ?_
              refine TL.done ?_
              refine NX.then_n ?_
              intro a hK; exact ⟨m143, Nat.lt_succ_self m143, z204, v206, (IntKind.wrap IntKind.i64 (i133 - 1)), r182.2.at_, r182.2.seed_, hK.weaken ⟨rfl, rfl, rfl, rfl, rfl, rfl, trivial⟩, he211, (by omega), hb186, hb137, hs139, hs208, (fun g hg => by have := hbd220 g hg; omega), hs138, hp212, hp213, hp216, hF⟩
            · intro hc221
              replace hF := bif_f hc221 hF
              refine WC.exit' ?_
              refine NX.then_e ?_
              refine NX.then_e ?_
              refine NX.blk_hit ?_
              refine NX.seq ?_
              refine WC.seq ?_
              refine WC.seq ?_
              refine WC.region ?_
              refine TL.yld rfl rfl (yld_move rfl rfl) ?_
              refine TL.yld rfl rfl (yld_len_own (c := C_LatchLink) rfl Try.underlying36 rfl hs131) ?_
              refine TL.yld rfl rfl (yld_gtr rfl rfl rfl) ?_
              refine TL.done ?_
              refine NX.seq ?_
              refine WC.cond rfl ?_ ?_
              · intro hc222
                replace hF := bif_t hc222 hF
                refine WC.seq ?_
                refine WC.region ?_
                refine TL.yld rfl rfl (yld_move rfl rfl) ?_
                refine TL.yld rfl rfl (yld_move rfl rfl) ?_
                refine TL.yld rfl rfl (yld_len_own (c := C_LatchLink) rfl Try.underlying36 rfl hs131) ?_
                obtain ⟨r223, hr224, hF⟩ := bsome hF
                refine TL.eff rfl rfl (eff_call rfl gf_93 rfl (W_spec_l01Next hr224 hb134 hs139 (by omega) (by omega))) ?_
                rintro _ w225 ⟨rfl, hb227, hx226⟩
                have he228 : But (pB b0_) w w225 := But.but he128 hx226 (all_pB (Or.inl rfl))
                have hb137 := Box.but hb137 hx226 (all_pB (by omega))
                have hs139 := slRep.but hs139 hx226 (all_pB (by omega)) (by omega)
                have hp229 : ∀ g, v130.ownBlock = some g → g ≠ b0_ := hp140
                have hs131 := ownR.butF hs131 hx226 (all_pB (fun g hg e => hp229 g hg e.symm))
                have hp230 : ∀ g, v53.ownBlock = some g → g ≠ b0_ := hp63
                have hs138 := ownR.butF hs138 hx226 (all_pB (fun g hg e => hp230 g hg e.symm))
                have hz231 := (hx226).size
                refine TL.yld rfl rfl (yld_assign rfl rfl) ?_
                refine TL.done ?_
                refine NX.seq ?_
                refine WC.seq ?_
                refine WC.region ?_
                refine TL.yld rfl rfl (yld_move rfl rfl) ?_
                obtain ⟨r232, hr233, hF⟩ := bsome hF
                refine TL.eff rfl rfl (eff_call rfl gf_93 rfl (W_spec_l01Next hr233 hb227 hs139 (by omega) (by omega))) ?_
                rintro _ w234 ⟨rfl, hb236, hx235⟩
                have he237 : But (pB b0_) w w234 := But.but he228 hx235 (all_pB (Or.inl rfl))
                have hb137 := Box.but hb137 hx235 (all_pB (by omega))
                have hs139 := slRep.but hs139 hx235 (all_pB (by omega)) (by omega)
                have hp238 : ∀ g, v130.ownBlock = some g → g ≠ b0_ := hp140
                have hs131 := ownR.butF hs131 hx235 (all_pB (fun g hg e => hp238 g hg e.symm))
                have hp239 : ∀ g, v53.ownBlock = some g → g ≠ b0_ := hp63
                have hs138 := ownR.butF hs138 hx235 (all_pB (fun g hg e => hp239 g hg e.symm))
                have hz240 := (hx235).size
                refine TL.done ?_
                refine NX.seq ?_
                refine WC.block ?_
                refine WC.seq ?_
                refine WC.region ?_
                refine TL.yld rfl rfl (yld_eql rfl rfl rfl) ?_
                refine TL.yld rfl rfl (yld_assign rfl rfl) ?_
                refine TL.done ?_
                refine NX.seq ?_
                refine WC.cond rfl ?_ ?_
                · intro hc241
                  replace hF := bif_t hc241 hF
                  refine WC.region ?_
                  refine TL.yld rfl rfl (yld_move rfl rfl) ?_
                  refine TL.yld rfl rfl (yld_move rfl rfl) ?_
                  refine TL.yld rfl rfl (yld_move rfl rfl) ?_
                  obtain ⟨x242, hy243, hF⟩ := bsome hF
                  refine TL.ye rfl rfl (ye_index_own (c := C_LatchLink) rfl Try.underlying36 cn_77 rfl rfl hs131 hy243) ?_
                  rintro _ ⟨g244, us246, rfl, hg245, hr247, hcl248⟩
                  have hr247r := hr247
                  obtain rfl := C_LatchLink_open hr247
                  refine TL.yld rfl rfl (yld_fieldAddr rfl fo_77_1 rfl) ?_
                  refine TL.eff rfl rfl (eff_store_own (c := C_LatchLink) (us' := [.int .i64 x242.From, .int .i64 r41.1, .int .i64 x242.Delay, .int .i64 x242.Shift]) (y' := (S_LatchLink.mk x242.From r41.1 x242.Delay x242.Shift)) 1 _ rfl rfl rfl hs131 hg245 hy243 rfl cn_2 rfl hr247r hcl248 rfl rfl C_LatchLink_mk (fun k h => absurd h.2 (Nat.not_lt_zero k))) ?_
                  rintro _ w249 ⟨hu250, hs251⟩
                  have he252 : But (pB b0_) w w249 := But.upd he237 hu250 (Or.inr (by have := hbd132 _ hg245; omega))
                  have hb236 := Box.upd hb236 hu250 (by have := hp140 _ hg245; omega)
                  have hb137 := Box.upd hb137 hu250 (by have := hp141 _ hg245; omega)
                  have hs139 := slRep.upd hs139 hu250 (by have := hbd132 _ hg245; omega)
                  have hs138 := ownR.upd hs138 hu250 (fun q hq => by have := hp142 _ q hg245 hq; omega)
                  have hz253 := (hu250).size
                  refine TL.done ?_
                  refine NX.blk_n ?_
                  refine NX.seq ?_
                  refine WC.seq ?_
                  refine WC.region ?_
                  refine TL.yld rfl rfl (yld_move rfl rfl) ?_
                  refine TL.yld rfl rfl (yld_move rfl rfl) ?_
                  refine TL.yld rfl rfl (yld_build (uss := [(0, [v53]), (1, [v130])]) (out := [v53, v130]) rfl rfl zn_38 pl_38 (pt_cons (slRep.cl (ownR.slf hs138 (Nat.le_refl _) (Nat.le_refl _))) (pt_cons (slRep.cl (ownR.slf hs251 (Nat.le_refl _) (Nat.le_refl _))) rfl)) rfl) ?_
                  refine TL.eff rfl rfl (eff_store rfl rfl rfl hb137 cn_38 (allc_cons (slRep.one (ownR.slf hs138 (Nat.le_refl _) (Nat.le_refl _))) (allc_cons (slRep.one (ownR.slf hs251 (Nat.le_refl _) (Nat.le_refl _))) allc_nil)) rfl) ?_
                  rintro _ w254 ⟨hu255, hb256⟩
                  have he257 : But (pB b0_) w w254 := But.upd he252 hu255 (Or.inr (by omega))
                  have hb236 := Box.upd hb236 hu255 (by omega)
                  have hs139 := slRep.upd hs139 hu255 (by omega)
                  have hs251 := ownR.upd hs251 hu255 hp141
                  have hs138 := ownR.upd hs138 hu255 hp64
                  have hz258 := (hu255).size
                  have hb137 : Box w254 b8 [v53, v130] 38 := hb256
                  refine TL.done ?_
                  refine NX.seq ?_
                  refine WC.ret' ?_
                  obtain rfl := Option.some.inj hF
                  exact NX.end (rs := [.cell 2 38]) (vs := [.agg #[v53, v130]]) rfl ⟨⟨b8, rfl, box_load ag_38 cn_38 hb137⟩, trivial⟩ ⟨_, rfl, _, _, rfl, ownR.base hs138 (by omega), ownR.base hs251 (by omega), hp142, hb236, he257⟩
                · intro hc259
                  replace hF := bif_f hc259 hF
                  refine WC.seq ?_
                  refine WC.region ?_
                  refine TL.yld rfl rfl (yld_eql rfl rfl rfl) ?_
                  refine TL.yld rfl rfl (yld_assign rfl rfl) ?_
                  refine TL.done ?_
                  refine NX.seq ?_
                  refine WC.cond rfl ?_ ?_
                  · intro hc260
                    replace hF := bif_t hc260 hF
                    refine WC.region ?_
                    refine TL.yld rfl rfl (yld_move rfl rfl) ?_
                    refine TL.yld rfl rfl (yld_move rfl rfl) ?_
                    refine TL.eff rfl rfl (eff_buildSlice (c := (cInt .i64)) (xs := [(-1), 100000, 100001]) (S := (Iv 0 0)) (uss := [(0, [.int .i64 (-1)]), (1, [.int .i64 100000]), (2, [.int .i64 100001])]) (out := [.int .i64 (-1), .int .i64 100000, .int .i64 100001]) rfl Try.underlying45 in_2 rfl rfl (fillL_all [[.int .i64 (-1)], [.int .i64 100000], [.int .i64 100001]] rfl rfl rfl) rfl rfl rfl rfl (one_rep (uss := [[.int .i64 (-1)], [.int .i64 100000], [.int .i64 100001]]) (show reps _ _ _ _ _ from ⟨rfl, rfl, rfl, trivial⟩) rfl) (fun k h => by have := h.2; omega) rfl) ?_
                    rintro v261 w262 ⟨g263, hv264, hg265, hz266, hx267, hs268⟩
                    have he269 : But (pB b0_) w w262 := But.ext he237 hx267
                    have hb236 := Box.ext hb236 hx267
                    have hb137 := Box.ext hb137 hx267
                    have hs139 := slRep.old hs139 hx267 (by omega)
                    have hs131 := ownR.ext hs131 hx267
                    have hs138 := ownR.ext hs138 hx267
                    have hz270 := (hx267).size
                    have hlo271 : w.heap.size ≤ g263 := by rw [hg265]; exact (he237).size
                    have hbd272 := bd_of hv264
                    clear hv264
                    refine TL.yld rfl rfl (yld_move rfl rfl) ?_
                    obtain ⟨r274, hr275, hF⟩ := bsome hF
                    refine TL.eff rfl rfl (eff_call rfl gf_93 rfl (W_spec_l01Next hr275 hb236 hs139 (by omega) (by omega))) ?_
                    rintro _ w276 ⟨rfl, hb278, hx277⟩
                    have he279 : But (pB b0_) w w276 := But.but he269 hx277 (all_pB (Or.inl rfl))
                    have hb137 := Box.but hb137 hx277 (all_pB (by omega))
                    have hs139 := slRep.but hs139 hx277 (all_pB (by omega)) (by omega)
                    have hp280 : ∀ g, v130.ownBlock = some g → g ≠ b0_ := hp140
                    have hs131 := ownR.butF hs131 hx277 (all_pB (fun g hg e => hp280 g hg e.symm))
                    have hp281 : ∀ g, v53.ownBlock = some g → g ≠ b0_ := hp63
                    have hs138 := ownR.butF hs138 hx277 (all_pB (fun g hg e => hp281 g hg e.symm))
                    have hp282 : ∀ g, v261.ownBlock = some g → g ≠ b0_ := (fun g hg => by have := hbd272 g hg; omega)
                    have hs268 := ownR.butF hs268 hx277 (all_pB (fun g hg e => hp282 g hg e.symm))
                    have hz283 := (hx277).size
                    obtain ⟨x284, hy285, hF⟩ := bsome hF
                    refine TL.ye rfl rfl (ye_index_own (c := (cInt .i64)) rfl Try.underlying45 cn_2 rfl rfl hs268 hy285) ?_
                    rintro _ ⟨g286, us288, rfl, hg287, hr289, hcl290⟩
                    have hr289r := hr289
                    obtain rfl := hr289
                    refine TL.yld rfl rfl (yld_load1 0 rfl ag_2 rfl hcl290 rfl rfl) ?_
                    obtain ⟨x291, hy292, hF⟩ := bsome hF
                    refine TL.ye rfl rfl (ye_index_own (c := C_LatchLink) rfl Try.underlying36 cn_77 rfl rfl hs131 hy292) ?_
                    rintro _ ⟨g293, us295, rfl, hg294, hr296, hcl297⟩
                    have hr296r := hr296
                    obtain rfl := C_LatchLink_open hr296
                    refine TL.yld rfl rfl (yld_fieldAddr rfl fo_77_2 rfl) ?_
                    refine TL.eff rfl rfl (eff_store_own (c := C_LatchLink) (us' := [.int .i64 x291.From, .int .i64 x291.To, .int .i64 x284, .int .i64 x291.Shift]) (y' := (S_LatchLink.mk x291.From x291.To x284 x291.Shift)) 2 _ rfl rfl rfl hs131 hg294 hy292 rfl cn_2 rfl hr296r hcl297 rfl rfl C_LatchLink_mk (fun k h => absurd h.2 (Nat.not_lt_zero k))) ?_
                    rintro _ w298 ⟨hu299, hs300⟩
                    have he301 : But (pB b0_) w w298 := But.upd he279 hu299 (Or.inr (by have := hbd132 _ hg294; omega))
                    have hb278 := Box.upd hb278 hu299 (by have := hp140 _ hg294; omega)
                    have hb137 := Box.upd hb137 hu299 (by have := hp141 _ hg294; omega)
                    have hs139 := slRep.upd hs139 hu299 (by have := hbd132 _ hg294; omega)
                    have hs138 := ownR.upd hs138 hu299 (fun q hq => by have := hp142 _ q hg294 hq; omega)
                    have hs268 := ownR.upd hs268 hu299 (fun q hq => by have := hbd272 q hq; have := hbd132 _ hg294; omega)
                    have hz302 := (hu299).size
                    refine TL.done ?_
                    refine NX.blk_n ?_
                    refine NX.seq ?_
                    refine WC.seq ?_
                    refine WC.region ?_
                    refine TL.yld rfl rfl (yld_move rfl rfl) ?_
                    refine TL.yld rfl rfl (yld_move rfl rfl) ?_
                    refine TL.yld rfl rfl (yld_build (uss := [(0, [v53]), (1, [v130])]) (out := [v53, v130]) rfl rfl zn_38 pl_38 (pt_cons (slRep.cl (ownR.slf hs138 (Nat.le_refl _) (Nat.le_refl _))) (pt_cons (slRep.cl (ownR.slf hs300 (Nat.le_refl _) (Nat.le_refl _))) rfl)) rfl) ?_
                    refine TL.eff rfl rfl (eff_store rfl rfl rfl hb137 cn_38 (allc_cons (slRep.one (ownR.slf hs138 (Nat.le_refl _) (Nat.le_refl _))) (allc_cons (slRep.one (ownR.slf hs300 (Nat.le_refl _) (Nat.le_refl _))) allc_nil)) rfl) ?_
                    rintro _ w303 ⟨hu304, hb305⟩
                    have he306 : But (pB b0_) w w303 := But.upd he301 hu304 (Or.inr (by omega))
                    have hb278 := Box.upd hb278 hu304 (by omega)
                    have hs139 := slRep.upd hs139 hu304 (by omega)
                    have hs300 := ownR.upd hs300 hu304 hp141
                    have hs138 := ownR.upd hs138 hu304 hp64
                    have hs268 := ownR.upd hs268 hu304 (fun g hg => by have := hbd272 g hg; omega)
                    have hz307 := (hu304).size
                    have hb137 : Box w303 b8 [v53, v130] 38 := hb305
                    refine TL.done ?_
                    refine NX.seq ?_
                    refine WC.ret' ?_
                    obtain rfl := Option.some.inj hF
                    exact NX.end (rs := [.cell 2 38]) (vs := [.agg #[v53, v130]]) rfl ⟨⟨b8, rfl, box_load ag_38 cn_38 hb137⟩, trivial⟩ ⟨_, rfl, _, _, rfl, ownR.base hs138 (by omega), ownR.base hs300 (by omega), hp142, hb278, he306⟩
                  · intro hc308
                    replace hF := bif_f hc308 hF
                    refine WC.seq ?_
                    refine WC.region ?_
                    refine TL.yld rfl rfl (yld_eql rfl rfl rfl) ?_
                    refine TL.yld rfl rfl (yld_assign rfl rfl) ?_
                    refine TL.done ?_
                    refine NX.seq ?_
                    refine WC.cond rfl ?_ ?_
                    · intro hc309
                      replace hF := bif_t hc309 hF
                      refine WC.region ?_
                      refine TL.yld rfl rfl (yld_move rfl rfl) ?_
                      refine TL.yld rfl rfl (yld_move rfl rfl) ?_
                      obtain ⟨x310, hy311, hF⟩ := bsome hF
                      refine TL.ye rfl rfl (ye_index_own (c := C_Latch) rfl Try.underlying35 cn_50 rfl rfl hs138 hy311) ?_
                      rintro _ ⟨g312, us314, rfl, hg313, hr315, hcl316⟩
                      have hr315r := hr315
                      obtain rfl := C_Latch_open hr315
                      refine TL.yld rfl rfl (yld_fieldAddr rfl fo_50_0 rfl) ?_
                      refine TL.yld rfl rfl (yld_load1 0 rfl ag_2 rfl hcl316 rfl rfl) ?_
                      refine TL.yld rfl rfl (yld_sub rfl rfl rfl) ?_
                      obtain ⟨x317, hy318, hF⟩ := bsome hF
                      refine TL.ye rfl rfl (ye_index_own (c := C_Latch) rfl Try.underlying35 cn_50 rfl rfl hs138 hy318) ?_
                      rintro _ ⟨g319, us321, rfl, hg320, hr322, hcl323⟩
                      have hr322r := hr322
                      obtain rfl := C_Latch_open hr322
                      refine TL.yld rfl rfl (yld_fieldAddr rfl fo_50_1 rfl) ?_
                      refine TL.eff rfl rfl (eff_store_own (c := C_Latch) (us' := [.int .i64 x317.Open, .int .i64 (IntKind.wrap IntKind.i64 (x310.Open - 1))]) (y' := (S_Latch.mk x317.Open (IntKind.wrap IntKind.i64 (x310.Open - 1)))) 1 _ rfl rfl rfl hs138 hg320 hy318 rfl cn_2 rfl hr322r hcl323 rfl rfl C_Latch_mk (fun k h => absurd h.2 (Nat.not_lt_zero k))) ?_
                      rintro _ w324 ⟨hu325, hs326⟩
                      have he327 : But (pB b0_) w w324 := But.upd he237 hu325 (Or.inr (by have := hbd55 _ hg320; omega))
                      have hb236 := Box.upd hb236 hu325 (by have := hp63 _ hg320; omega)
                      have hb137 := Box.upd hb137 hu325 (by have := hp64 _ hg320; omega)
                      have hs139 := slRep.upd hs139 hu325 (by have := hbd55 _ hg320; omega)
                      have hs131 := ownR.upd hs131 hu325 (fun q hq => by have := hp142 q _ hq hg320; omega)
                      have hz328 := (hu325).size
                      refine TL.done ?_
                      refine NX.blk_n ?_
                      refine NX.seq ?_
                      refine WC.seq ?_
                      refine WC.region ?_
                      refine TL.yld rfl rfl (yld_move rfl rfl) ?_
                      refine TL.yld rfl rfl (yld_move rfl rfl) ?_
                      refine TL.yld rfl rfl (yld_build (uss := [(0, [v53]), (1, [v130])]) (out := [v53, v130]) rfl rfl zn_38 pl_38 (pt_cons (slRep.cl (ownR.slf hs326 (Nat.le_refl _) (Nat.le_refl _))) (pt_cons (slRep.cl (ownR.slf hs131 (Nat.le_refl _) (Nat.le_refl _))) rfl)) rfl) ?_
                      refine TL.eff rfl rfl (eff_store rfl rfl rfl hb137 cn_38 (allc_cons (slRep.one (ownR.slf hs326 (Nat.le_refl _) (Nat.le_refl _))) (allc_cons (slRep.one (ownR.slf hs131 (Nat.le_refl _) (Nat.le_refl _))) allc_nil)) rfl) ?_
                      rintro _ w329 ⟨hu330, hb331⟩
                      have he332 : But (pB b0_) w w329 := But.upd he327 hu330 (Or.inr (by omega))
                      have hb236 := Box.upd hb236 hu330 (by omega)
                      have hs139 := slRep.upd hs139 hu330 (by omega)
                      have hs131 := ownR.upd hs131 hu330 hp141
                      have hs326 := ownR.upd hs326 hu330 hp64
                      have hz333 := (hu330).size
                      have hb137 : Box w329 b8 [v53, v130] 38 := hb331
                      refine TL.done ?_
                      refine NX.seq ?_
                      refine WC.ret' ?_
                      obtain rfl := Option.some.inj hF
                      exact NX.end (rs := [.cell 2 38]) (vs := [.agg #[v53, v130]]) rfl ⟨⟨b8, rfl, box_load ag_38 cn_38 hb137⟩, trivial⟩ ⟨_, rfl, _, _, rfl, ownR.base hs326 (by omega), ownR.base hs131 (by omega), hp142, hb236, he332⟩
                    · intro hc334
                      replace hF := bif_f hc334 hF
                      refine WC.seq ?_
                      refine WC.region ?_
                      refine TL.yld rfl rfl (yld_eql rfl rfl rfl) ?_
                      refine TL.yld rfl rfl (yld_assign rfl rfl) ?_
                      refine TL.done ?_
                      refine NX.seq ?_
                      refine WC.cond rfl ?_ ?_
                      · intro hc335
                        replace hF := bif_t hc335 hF
                        refine WC.block ?_
                        refine WC.loop (fun m351 a wl => ∃ (l338 : List S_LatchLink) (v339 : Value) (i343 : Int) (i344 : Int), Kn 117 [(0, .pointer (some ⟨b0_, 0, none⟩)), (2, .pointer (some ⟨b8, 0, none⟩)), (3, v53), (4, v339)] a ∧ But (pB b0_) w wl ∧ w234.heap.size ≤ wl.heap.size ∧ Box wl b0_ [v1, .int .i64 i343, .int .i64 i344] 115 ∧ Box wl b8 [.slice none 0 0, .slice none 0 0] 38 ∧ slRep (cInt .u8) wl (Iv lo3 hi4) a0_s.code_ v1 ∧ ownR C_LatchLink wl (g30) (Iv 0 0) 77 l338 v339 ∧ (∀ q, v339.ownBlock = some q → g30 ≤ q ∧ q < wl.heap.size) ∧ ownR C_Latch wl (g17) (Iv 0 0) 50 l52 v53 ∧ (∀ g, v339.ownBlock = some g → g ≠ b0_) ∧ (∀ g, v339.ownBlock = some g → g ≠ b8) ∧ (∀ g q, v339.ownBlock = some g → v53.ownBlock = some q → g ≠ q) ∧ F_spec_l18Draw_L3 n a0_s (fun l338 i343 i344 => (some ((S_LatchSystem.mk l52 l338), (S_l01Source.mk a0_s.code_ i343 i344)))) m351 l338 i343 i344 = some r) n ?_ ?_
                        · intro a hK; exact ⟨l129, v130, r232.2.at_, r232.2.seed_, hK.weaken ⟨rfl, rfl, rfl, rfl, trivial⟩, he237, Nat.le_refl _, hb236, hb137, hs139, hs131, (fun g hg => by have := hbd132 g hg; omega), hs138, hp140, hp141, hp142, hF⟩
                        · rintro m351 a w336 ⟨l338, v339, i343, i344, hK, he337, hz352, hb342, hb345, hs347, hs340, hbd341, hs346, hp348, hp349, hp350, hF⟩
                          revert hK; revert a; refine (?_ : WC _ _ _ _ _ _)
                          cases m351 with
                          | zero => rw [F_spec_l18Draw_L3_z] at hF; cases hF
                          | succ m351 =>
                            rw [F_spec_l18Draw_L3_s] at hF
                            refine WC.seq ?_
                            refine WC.seq ?_
                            refine WC.region ?_
                            refine TL.yld rfl rfl (yld_move rfl rfl) ?_
                            refine TL.yld rfl rfl (yld_len_own (c := C_LatchLink) rfl Try.underlying36 rfl hs340) ?_
                            refine TL.yld rfl rfl (yld_move rfl rfl) ?_
                            obtain ⟨r353, hr354, hF⟩ := bsome hF
                            refine TL.eff rfl rfl (eff_call rfl gf_93 rfl (W_spec_l01Next hr354 hb342 hs347 (by omega) (by omega))) ?_
                            rintro _ w355 ⟨rfl, hb357, hx356⟩
                            have he358 : But (pB b0_) w w355 := But.but he337 hx356 (all_pB (Or.inl rfl))
                            have hb345 := Box.but hb345 hx356 (all_pB (by omega))
                            have hs347 := slRep.but hs347 hx356 (all_pB (by omega)) (by omega)
                            have hp359 : ∀ g, v339.ownBlock = some g → g ≠ b0_ := hp348
                            have hs340 := ownR.butF hs340 hx356 (all_pB (fun g hg e => hp359 g hg e.symm))
                            have hp360 : ∀ g, v53.ownBlock = some g → g ≠ b0_ := hp63
                            have hs346 := ownR.butF hs346 hx356 (all_pB (fun g hg e => hp360 g hg e.symm))
                            have hz361 := (hx356).size
                            refine TL.yld rfl rfl (yld_add rfl rfl rfl) ?_
                            refine TL.yld rfl rfl (yld_lss rfl rfl rfl) ?_
                            refine TL.done ?_
                            refine NX.seq ?_
                            refine WC.cond rfl ?_ ?_
                            · intro hc362
                              replace hF := bif_t hc362 hF
                              refine WC.skip' ?_
                              refine NX.seq ?_
                              refine WC.block ?_
                              refine WC.region ?_
                              refine TL.yld rfl rfl (yld_move rfl rfl) ?_
                              refine TL.yld rfl rfl (yld_move rfl rfl) ?_
                              obtain ⟨x363, hy364, hF⟩ := bsome hF
                              refine TL.ye rfl rfl (ye_index_own (c := C_LatchLink) rfl Try.underlying36 cn_77 rfl rfl hs340 hy364) ?_
                              rintro _ ⟨g365, us367, rfl, hg366, hr368, hcl369⟩
                              have hr368r := hr368
                              obtain rfl := C_LatchLink_open hr368
                              refine TL.yld rfl rfl (yld_loadN (us := [.int .i64 x363.From, .int .i64 x363.To, .int .i64 x363.Delay, .int .i64 x363.Shift]) rfl ag_77 rfl hcl369 cn_77) ?_
                              refine TL.eff rfl rfl (eff_buildSlice (c := C_LatchLink) (xs := [x363]) (S := (Iv 0 0)) (uss := [(0, [.int .i64 x363.From, .int .i64 x363.To, .int .i64 x363.Delay, .int .i64 x363.Shift])]) (out := [.int .i64 x363.From, .int .i64 x363.To, .int .i64 x363.Delay, .int .i64 x363.Shift]) rfl Try.underlying36 in_77 rfl rfl (fillL_all [[.int .i64 x363.From, .int .i64 x363.To, .int .i64 x363.Delay, .int .i64 x363.Shift]] rfl rfl rfl) rfl rfl rfl rfl (one_rep (uss := [[.int .i64 x363.From, .int .i64 x363.To, .int .i64 x363.Delay, .int .i64 x363.Shift]]) (show reps _ _ _ _ _ from ⟨C_LatchLink_mk, trivial⟩) rfl) (fun k h => by have := h.2; omega) rfl) ?_
                              rintro v370 w371 ⟨g372, hv373, hg374, hz375, hx376, hs377⟩
                              have he378 : But (pB b0_) w w371 := But.ext he358 hx376
                              have hb357 := Box.ext hb357 hx376
                              have hb345 := Box.ext hb345 hx376
                              have hs347 := slRep.old hs347 hx376 (by omega)
                              have hs340 := ownR.ext hs340 hx376
                              have hs346 := ownR.ext hs346 hx376
                              have hz379 := (hx376).size
                              have hlo380 : w.heap.size ≤ g372 := by rw [hg374]; exact (he358).size
                              have hbd381 := bd_of hv373
                              clear hv373
                              obtain ⟨z383, ha384, hF⟩ := bsome hF
                              refine TL.eff rfl rfl (eff_appendF (c := C_LatchLink) rfl Try.underlying36 in_77 rfl rfl rfl rfl rfl hs340 (by omega) (ownR.slf hs377 (Nat.le_refl _) (Nat.le_refl _)) ha384) ?_
                              rintro v385 w386 ⟨hs387, hgr388⟩
                              have he390 : But (pB b0_) w w386 := But.grow he378 hgr388 (fun g hg => (Or.inr (by have := hbd341 g hg; omega)))
                              have hp391 : ∀ g, v385.ownBlock = some g → g ≠ b0_ := Grew.sepP (p := fun g => g ≠ b0_) hgr388 hp348 (fun g hg => by omega)
                              have hb357 := Grew.box hgr388 hb357 hp348
                              have hp392 : ∀ g, v385.ownBlock = some g → g ≠ b8 := Grew.sepP (p := fun g => g ≠ b8) hgr388 hp349 (fun g hg => by omega)
                              have hb345 := Grew.box hgr388 hb345 hp349
                              have hp393 : ∀ g, v385.ownBlock = some g → g < lo3 ∨ hi4 ≤ g := Grew.sepP (p := fun g => g < lo3 ∨ hi4 ≤ g) hgr388 (fun g hg => by have := hbd341 g hg; omega) (fun g hg => by omega)
                              have hs347 := Grew.slr hgr388 hs347 (fun g hg => by have := hbd341 g hg; omega) (by omega)
                              have hp394 : ∀ g q, v339.ownBlock = some g → v53.ownBlock = some q → g ≠ q := hp350
                              have hp395 : ∀ g q, v385.ownBlock = some g → v53.ownBlock = some q → g ≠ q := fun g q hg hq => Grew.sepP (p := fun g => ∀ q, v53.ownBlock = some q → g ≠ q) hgr388 (fun g hg q hq => (hp394) g q hg hq) (fun g hg q hq => by have := hbd55 q hq; omega) g hg q hq
                              have hs346 := Grew.ownF hgr388 hs346 hp394
                              have hp396 : ∀ g q, v339.ownBlock = some g → v370.ownBlock = some q → g ≠ q := (fun g q hg hq => by have := hbd341 g hg; have := hbd381 q hq; omega)
                              have hp397 : ∀ g q, v385.ownBlock = some g → v370.ownBlock = some q → g ≠ q := fun g q hg hq => Grew.sepP (p := fun g => ∀ q, v370.ownBlock = some q → g ≠ q) hgr388 (fun g hg q hq => (hp396) g q hg hq) (fun g hg q hq => by have := hbd381 q hq; omega) g hg q hq
                              have hs377 := Grew.ownF hgr388 hs377 hp396
                              have hz398 := (hgr388).1.size
                              have hbd399 : ∀ g, v385.ownBlock = some g → g30 ≤ g ∧ g < w386.heap.size := Grew.bd hgr388 hs387 (fun g hg => ⟨by have := hbd341 g hg; omega, (hbd341 g hg).2⟩) (by omega) (by omega)
                              refine TL.yld rfl rfl (yld_assign rfl rfl) ?_
                              refine TL.done ?_
                              refine NX.blk_n ?_
                              refine NX.then_n ?_
                              intro a hK; exact ⟨m351, Nat.lt_succ_self m351, z383, v385, r353.2.at_, r353.2.seed_, hK.weaken ⟨rfl, rfl, rfl, rfl, trivial⟩, he390, (by omega), hb357, hb345, hs347, hs387, (fun g hg => by have := hbd399 g hg; omega), hs346, hp391, hp392, hp395, hF⟩
                            · intro hc400
                              replace hF := bif_f hc400 hF
                              refine WC.exit' ?_
                              refine NX.then_e ?_
                              refine NX.then_e ?_
                              refine NX.blk_hit ?_
                              refine NX.blk_n ?_
                              refine NX.seq ?_
                              refine WC.seq ?_
                              refine WC.region ?_
                              refine TL.yld rfl rfl (yld_move rfl rfl) ?_
                              refine TL.yld rfl rfl (yld_move rfl rfl) ?_
                              refine TL.yld rfl rfl (yld_build (uss := [(0, [v53]), (1, [v339])]) (out := [v53, v339]) rfl rfl zn_38 pl_38 (pt_cons (slRep.cl (ownR.slf hs346 (Nat.le_refl _) (Nat.le_refl _))) (pt_cons (slRep.cl (ownR.slf hs340 (Nat.le_refl _) (Nat.le_refl _))) rfl)) rfl) ?_
                              refine TL.eff rfl rfl (eff_store rfl rfl rfl hb345 cn_38 (allc_cons (slRep.one (ownR.slf hs346 (Nat.le_refl _) (Nat.le_refl _))) (allc_cons (slRep.one (ownR.slf hs340 (Nat.le_refl _) (Nat.le_refl _))) allc_nil)) rfl) ?_
                              rintro _ w401 ⟨hu402, hb403⟩
                              have he404 : But (pB b0_) w w401 := But.upd he358 hu402 (Or.inr (by omega))
                              have hb357 := Box.upd hb357 hu402 (by omega)
                              have hs347 := slRep.upd hs347 hu402 (by omega)
                              have hs340 := ownR.upd hs340 hu402 hp349
                              have hs346 := ownR.upd hs346 hu402 hp64
                              have hz405 := (hu402).size
                              have hb345 : Box w401 b8 [v53, v339] 38 := hb403
                              refine TL.done ?_
                              refine NX.seq ?_
                              refine WC.ret' ?_
                              obtain rfl := Option.some.inj hF
                              exact NX.end (rs := [.cell 2 38]) (vs := [.agg #[v53, v339]]) rfl ⟨⟨b8, rfl, box_load ag_38 cn_38 hb345⟩, trivial⟩ ⟨_, rfl, _, _, rfl, ownR.base hs346 (by omega), ownR.base hs340 (by omega), hp350, hb357, he404⟩
                      · intro hc406
                        replace hF := bif_f hc406 hF
                        refine WC.seq ?_
                        refine WC.region ?_
                        refine TL.yld rfl rfl (yld_eql rfl rfl rfl) ?_
                        refine TL.yld rfl rfl (yld_assign rfl rfl) ?_
                        refine TL.done ?_
                        refine NX.seq ?_
                        refine WC.cond rfl ?_ ?_
                        · intro hc407
                          replace hF := bif_t hc407 hF
                          refine WC.region ?_
                          refine TL.yld rfl rfl (yld_move rfl rfl) ?_
                          refine TL.yld rfl rfl (yld_move rfl rfl) ?_
                          obtain ⟨x408, hy409, hF⟩ := bsome hF
                          refine TL.ye rfl rfl (ye_index_own (c := C_LatchLink) rfl Try.underlying36 cn_77 rfl rfl hs131 hy409) ?_
                          rintro _ ⟨g410, us412, rfl, hg411, hr413, hcl414⟩
                          have hr413r := hr413
                          obtain rfl := C_LatchLink_open hr413
                          refine TL.yld rfl rfl (yld_fieldAddr rfl fo_77_3 rfl) ?_
                          refine TL.eff rfl rfl (eff_store_own (c := C_LatchLink) (us' := [.int .i64 x408.From, .int .i64 x408.To, .int .i64 x408.Delay, .int .i64 0]) (y' := (S_LatchLink.mk x408.From x408.To x408.Delay 0)) 3 _ rfl rfl rfl hs131 hg411 hy409 rfl cn_2 rfl hr413r hcl414 rfl rfl C_LatchLink_mk (fun k h => absurd h.2 (Nat.not_lt_zero k))) ?_
                          rintro _ w415 ⟨hu416, hs417⟩
                          have he418 : But (pB b0_) w w415 := But.upd he237 hu416 (Or.inr (by have := hbd132 _ hg411; omega))
                          have hb236 := Box.upd hb236 hu416 (by have := hp140 _ hg411; omega)
                          have hb137 := Box.upd hb137 hu416 (by have := hp141 _ hg411; omega)
                          have hs139 := slRep.upd hs139 hu416 (by have := hbd132 _ hg411; omega)
                          have hs138 := ownR.upd hs138 hu416 (fun q hq => by have := hp142 _ q hg411 hq; omega)
                          have hz419 := (hu416).size
                          refine TL.done ?_
                          refine NX.blk_n ?_
                          refine NX.seq ?_
                          refine WC.seq ?_
                          refine WC.region ?_
                          refine TL.yld rfl rfl (yld_move rfl rfl) ?_
                          refine TL.yld rfl rfl (yld_move rfl rfl) ?_
                          refine TL.yld rfl rfl (yld_build (uss := [(0, [v53]), (1, [v130])]) (out := [v53, v130]) rfl rfl zn_38 pl_38 (pt_cons (slRep.cl (ownR.slf hs138 (Nat.le_refl _) (Nat.le_refl _))) (pt_cons (slRep.cl (ownR.slf hs417 (Nat.le_refl _) (Nat.le_refl _))) rfl)) rfl) ?_
                          refine TL.eff rfl rfl (eff_store rfl rfl rfl hb137 cn_38 (allc_cons (slRep.one (ownR.slf hs138 (Nat.le_refl _) (Nat.le_refl _))) (allc_cons (slRep.one (ownR.slf hs417 (Nat.le_refl _) (Nat.le_refl _))) allc_nil)) rfl) ?_
                          rintro _ w420 ⟨hu421, hb422⟩
                          have he423 : But (pB b0_) w w420 := But.upd he418 hu421 (Or.inr (by omega))
                          have hb236 := Box.upd hb236 hu421 (by omega)
                          have hs139 := slRep.upd hs139 hu421 (by omega)
                          have hs417 := ownR.upd hs417 hu421 hp141
                          have hs138 := ownR.upd hs138 hu421 hp64
                          have hz424 := (hu421).size
                          have hb137 : Box w420 b8 [v53, v130] 38 := hb422
                          refine TL.done ?_
                          refine NX.seq ?_
                          refine WC.ret' ?_
                          obtain rfl := Option.some.inj hF
                          exact NX.end (rs := [.cell 2 38]) (vs := [.agg #[v53, v130]]) rfl ⟨⟨b8, rfl, box_load ag_38 cn_38 hb137⟩, trivial⟩ ⟨_, rfl, _, _, rfl, ownR.base hs138 (by omega), ownR.base hs417 (by omega), hp142, hb236, he423⟩
                        · intro hc425
                          replace hF := bif_f hc425 hF
                          refine WC.skip' ?_
                          refine NX.blk_n ?_
                          refine NX.seq ?_
                          refine WC.seq ?_
                          refine WC.region ?_
                          refine TL.yld rfl rfl (yld_move rfl rfl) ?_
                          refine TL.yld rfl rfl (yld_move rfl rfl) ?_
                          refine TL.yld rfl rfl (yld_build (uss := [(0, [v53]), (1, [v130])]) (out := [v53, v130]) rfl rfl zn_38 pl_38 (pt_cons (slRep.cl (ownR.slf hs138 (Nat.le_refl _) (Nat.le_refl _))) (pt_cons (slRep.cl (ownR.slf hs131 (Nat.le_refl _) (Nat.le_refl _))) rfl)) rfl) ?_
                          refine TL.eff rfl rfl (eff_store rfl rfl rfl hb137 cn_38 (allc_cons (slRep.one (ownR.slf hs138 (Nat.le_refl _) (Nat.le_refl _))) (allc_cons (slRep.one (ownR.slf hs131 (Nat.le_refl _) (Nat.le_refl _))) allc_nil)) rfl) ?_
                          rintro _ w426 ⟨hu427, hb428⟩
                          have he429 : But (pB b0_) w w426 := But.upd he237 hu427 (Or.inr (by omega))
                          have hb236 := Box.upd hb236 hu427 (by omega)
                          have hs139 := slRep.upd hs139 hu427 (by omega)
                          have hs131 := ownR.upd hs131 hu427 hp141
                          have hs138 := ownR.upd hs138 hu427 hp64
                          have hz430 := (hu427).size
                          have hb137 : Box w426 b8 [v53, v130] 38 := hb428
                          refine TL.done ?_
                          refine NX.seq ?_
                          refine WC.ret' ?_
                          obtain rfl := Option.some.inj hF
                          exact NX.end (rs := [.cell 2 38]) (vs := [.agg #[v53, v130]]) rfl ⟨⟨b8, rfl, box_load ag_38 cn_38 hb137⟩, trivial⟩ ⟨_, rfl, _, _, rfl, ownR.base hs138 (by omega), ownR.base hs131 (by omega), hp142, hb236, he429⟩
              · intro hc431
                replace hF := bif_f hc431 hF
                refine WC.skip' ?_
                refine NX.seq ?_
                refine WC.seq ?_
                refine WC.region ?_
                refine TL.yld rfl rfl (yld_move rfl rfl) ?_
                refine TL.yld rfl rfl (yld_move rfl rfl) ?_
                refine TL.yld rfl rfl (yld_build (uss := [(0, [v53]), (1, [v130])]) (out := [v53, v130]) rfl rfl zn_38 pl_38 (pt_cons (slRep.cl (ownR.slf hs138 (Nat.le_refl _) (Nat.le_refl _))) (pt_cons (slRep.cl (ownR.slf hs131 (Nat.le_refl _) (Nat.le_refl _))) rfl)) rfl) ?_
                refine TL.eff rfl rfl (eff_store rfl rfl rfl hb137 cn_38 (allc_cons (slRep.one (ownR.slf hs138 (Nat.le_refl _) (Nat.le_refl _))) (allc_cons (slRep.one (ownR.slf hs131 (Nat.le_refl _) (Nat.le_refl _))) allc_nil)) rfl) ?_
                rintro _ w432 ⟨hu433, hb434⟩
                have he435 : But (pB b0_) w w432 := But.upd he128 hu433 (Or.inr (by omega))
                have hb134 := Box.upd hb134 hu433 (by omega)
                have hs139 := slRep.upd hs139 hu433 (by omega)
                have hs131 := ownR.upd hs131 hu433 hp141
                have hs138 := ownR.upd hs138 hu433 hp64
                have hz436 := (hu433).size
                have hb137 : Box w432 b8 [v53, v130] 38 := hb434
                refine TL.done ?_
                refine NX.seq ?_
                refine WC.ret' ?_
                obtain rfl := Option.some.inj hF
                exact NX.end (rs := [.cell 2 38]) (vs := [.agg #[v53, v130]]) rfl ⟨⟨b8, rfl, box_load ag_38 cn_38 hb137⟩, trivial⟩ ⟨_, rfl, _, _, rfl, ownR.base hs138 (by omega), ownR.base hs131 (by omega), hp142, hb134, he435⟩

-- loop.example/g00861/spec.DrawLatchDepartures
def F_spec_DrawLatchDepartures (n : Nat) (a0_code : List Int) : Option S_LatchSystem := (Option.bind (F_spec_l01From n a0_code) fun r10 => (Option.bind (F_spec_l18Draw n ((S_l01Source.mk a0_code r10.at_ r10.seed_))) fun r19 => (some r19.1)))
set_option maxHeartbeats 40000000 in
theorem W_spec_DrawLatchDepartures {n : Nat} {a0_code : List Int} {r : S_LatchSystem} {w : World} {v1 : Value} (hF : F_spec_DrawLatchDepartures n a0_code = some r) (ha2 : slRep (cInt .u8) w (Iv 0 w.heap.size) a0_code v1) :
    Calls Try.prog 38 [v1].toArray w (Ret fun u w2 => ∃ v0_0 v0_1, u = .agg #[v0_0, v0_1] ∧ ownR C_Latch w2 w.heap.size (Iv 0 0) 50 r.Latches v0_0 ∧ ownR C_LatchLink w2 w.heap.size (Iv 0 0) 77 r.Links v0_1 ∧ (∀ g q, v0_1.ownBlock = some g → v0_0.ownBlock = some q → g ≠ q) ∧ Ext w w2) := by
  refine calls_of Try.func38 rfl Try.ntmps38 ?_
  have he0 : Ext w w := Ext.refl w
  unfold F_spec_DrawLatchDepartures at hF
  refine WC.seq ?_
  refine WC.region ?_
  refine TL.eff rfl rfl (eff_alloc rfl zn_38) ?_
  rintro _ w4 ⟨b3, rfl, hn5⟩
  obtain ⟨hn5e, hn5s, hn5x, hb6⟩ := hn5
  have hb6 : Box w4 b3 [.slice none 0 0, .slice none 0 0] 38 := hb6
  have he8 : Ext w w4 := Ext.trans he0 hn5x
  have hz9 := (hn5x).size
  have hlo7 : w.heap.size ≤ b3 := by rw [hn5e]; exact (he0).size
  refine TL.done ?_
  refine NX.seq ?_
  refine WC.seq ?_
  refine WC.region ?_
  refine TL.yld rfl rfl (yld_move rfl rfl) ?_
  obtain ⟨r10, hr11, hF⟩ := bsome hF
  refine TL.eff rfl rfl (eff_call rfl gf_64 rfl (W_spec_l01From hr11 ((slRep.old ha2 he8 (Nat.le_refl _)).wide (Nat.le_refl _) (he8).size))) ?_
  rintro _ w12 ⟨b14, rfl, hb15, hlo16, hx13⟩
  have he17 : Ext w w12 := Ext.trans he8 hx13
  have hb6 := Box.ext hb6 hx13
  have hz18 := (hx13).size
  have := hlo16
  have := Box.lt hb15
  refine TL.yld rfl rfl (yld_assign rfl rfl) ?_
  refine TL.done ?_
  refine NX.seq ?_
  refine WC.seq ?_
  refine WC.region ?_
  refine TL.yld rfl rfl (yld_move rfl rfl) ?_
  obtain ⟨r19, hr20, hF⟩ := bsome hF
  refine TL.eff rfl rfl (eff_call rfl gf_65 rfl (W_spec_l18Draw hr20 hb15 (slRep.old ha2 he17 (Nat.le_refl _)) (by omega) (by omega))) ?_
  rintro _ w21 ⟨v23, v25, rfl, hs24, hs26, hp31, hb32, hx22⟩
  have he33 : Ext w w21 := Below.trans he17 (But.below hx22 (all_pB (by omega)) (he17).size)
  have hb6 := Box.but hb6 hx22 (all_pB (by omega))
  have hz34 := (hx22).size
  have hbd28 := ownR.blk hs24
  have hbd30 := ownR.blk hs26
  refine TL.eff rfl rfl (eff_store rfl rfl rfl hb6 cn_38 (allc_cons (slRep.one (ownR.slf hs24 (Nat.le_refl _) (Nat.le_refl _))) (allc_cons (slRep.one (ownR.slf hs26 (Nat.le_refl _) (Nat.le_refl _))) allc_nil)) rfl) ?_
  rintro _ w35 ⟨hu36, hb37⟩
  have he38 : Ext w w35 := Below.trans he33 (Upd.below hu36 (by omega))
  have hb32 := Box.upd hb32 hu36 (by omega)
  have hs24 := ownR.upd hs24 hu36 (fun g hg => by have := hbd28 g hg; omega)
  have hs26 := ownR.upd hs26 hu36 (fun g hg => by have := hbd30 g hg; omega)
  have hz39 := (hu36).size
  have hb6 : Box w35 b3 [v23, v25] 38 := hb37
  refine TL.done ?_
  refine NX.seq ?_
  refine WC.ret' ?_
  obtain rfl := Option.some.inj hF
  exact NX.end (rs := [.cell 2 38]) (vs := [.agg #[v23, v25]]) rfl ⟨⟨b3, rfl, box_load ag_38 cn_38 hb6⟩, trivial⟩ ⟨_, rfl, _, _, rfl, ownR.base hs24 (by omega), ownR.base hs26 (by omega), hp31, he38⟩

-- loop.example/g00861/spec.l01In
def F_spec_l01In (n : Nat) (a0_n : Int) (a1_low : Int) (a2_high : Int) : Option Bool := (some (((decide (a0_n ≥ a1_low)) && (decide (a0_n ≤ a2_high)))))
set_option maxHeartbeats 40000000 in
theorem W_spec_l01In {n : Nat} {a0_n : Int} {a1_low : Int} {a2_high : Int} {r : Bool} {w : World} (hF : F_spec_l01In n a0_n a1_low a2_high = some r) :
    Calls Try.prog 57 [.int .i64 a0_n, .int .i64 a1_low, .int .i64 a2_high].toArray w (Ret fun u w2 => u = .bool r ∧ Ext w w2) := by
  refine calls_of Try.func57 rfl Try.ntmps57 ?_
  have he0 : Ext w w := Ext.refl w
  unfold F_spec_l01In at hF
  refine WC.seq ?_
  refine WC.region ?_
  refine TL.yld rfl rfl (yld_assign rfl rfl) ?_
  refine TL.done ?_
  refine NX.seq ?_
  refine WC.seq ?_
  refine WC.region ?_
  refine TL.yld rfl rfl (yld_move rfl rfl) ?_
  refine TL.yld rfl rfl (yld_move rfl rfl) ?_
  refine TL.yld rfl rfl (yld_geq rfl rfl rfl) ?_
  refine TL.yld rfl rfl (yld_move rfl rfl) ?_
  refine TL.cut 4 [(14, .bool (((decide (a0_n ≥ a1_low)) && (decide (a0_n ≤ a2_high)))))] (fun w' => Ext w w') ?_ ?_
  · rcases Bool.eq_false_or_eq_true (decide (a0_n ≥ a1_low)) with hg1 | hg1
    ·
      refine TL.gy (j := 3) (t := 10) rfl rfl rfl hg1 rfl (yld_move rfl rfl) ?_
      refine TL.gy (j := 3) (t := 10) rfl rfl rfl hg1 rfl (yld_move rfl rfl) ?_
      refine TL.gy (j := 3) (t := 10) rfl rfl rfl hg1 rfl (yld_leq rfl rfl rfl) ?_
      refine TL.yld rfl rfl (yld_and_t rfl rfl hg1 rfl) ?_
      exact TL.nil fun a h => ⟨h.weaken ⟨rfl, trivial⟩, Ext.refl _⟩
    ·
      refine TL.gnu (j := 3) (t := 10) rfl rfl rfl hg1 rfl ?_
      refine TL.gnu (j := 3) (t := 10) rfl rfl rfl hg1 rfl ?_
      refine TL.gnu (j := 3) (t := 10) rfl rfl rfl hg1 rfl ?_
      refine TL.yld rfl rfl (yld_and_f (b2 := decide (a0_n ≤ a2_high)) rfl rfl hg1 rfl) ?_
      exact TL.nil fun a h => ⟨h.weaken ⟨rfl, trivial⟩, Ext.refl _⟩
  intro w2 hx3
  have he4 : Ext w w2 := Ext.trans he0 hx3
  have hz5 := (hx3).size
  refine TL.yld rfl rfl (yld_assign rfl rfl) ?_
  refine TL.done ?_
  refine NX.seq ?_
  refine WC.ret' ?_
  obtain rfl := Option.some.inj hF
  exact NX.end (rs := [.tmp 6]) (vs := [.bool (((decide (a0_n ≥ a1_low)) && (decide (a0_n ≤ a2_high))))]) rfl ⟨rfl, trivial⟩ ⟨_, rfl, rfl, he4⟩

end Go.Proofs.Ytmhmpfckdhiijaa
