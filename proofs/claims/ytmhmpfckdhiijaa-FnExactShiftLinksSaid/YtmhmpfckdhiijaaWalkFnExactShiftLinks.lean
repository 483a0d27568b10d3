/- The walks: every function that FnExactShiftLinks reaches computes the plain function that is typed beside it; no condition. -/
import Derived.Test.YtmhmpfckdhiijaaWalkFnExactShiftLinksP0
import Derived.Test.YtmhmpfckdhiijaaDat
set_option linter.all false
set_option maxRecDepth 20000
namespace Go.Proofs.Ytmhmpfckdhiijaa
open Go Go.RowKit Go.Eng
-- (loop.example/g00861/impl.LatchSystem).shifted
def F_impl_LatchSystem_shifted_L1 (a1_by : Int) (r29 : List S_LatchLink) (k0 : Int → (List S_LatchLink) → Option S_LatchSystem) : Nat → Int → (List S_LatchLink) → Option S_LatchSystem
  | 0 => fun _ _ => none
  | m + 1 => fun i160 l164 => (bif decide (i160 < (r29.length : Int)) then (Option.bind (getI l164 i160) fun x167 => (Option.bind (getI l164 i160) fun x174 => (F_impl_LatchSystem_shifted_L1 a1_by r29 k0 m (IntKind.wrap IntKind.i64 (i160 + 1)) ((l164.set (i160).toNat ((S_LatchLink.mk x174.From x174.To x174.Delay (IntKind.wrap IntKind.i64 (x167.Shift + a1_by))))))))) else (k0 i160 l164))
theorem F_impl_LatchSystem_shifted_L1_z (a1_by : Int) (r29 : List S_LatchLink) (k0 : Int → (List S_LatchLink) → Option S_LatchSystem) (i160 : Int) (l164 : List S_LatchLink) : F_impl_LatchSystem_shifted_L1 a1_by r29 k0 0 i160 l164 = none := rfl
theorem F_impl_LatchSystem_shifted_L1_s (m : Nat) (a1_by : Int) (r29 : List S_LatchLink) (k0 : Int → (List S_LatchLink) → Option S_LatchSystem) (i160 : Int) (l164 : List S_LatchLink) : F_impl_LatchSystem_shifted_L1 a1_by r29 k0 (m + 1) i160 l164 = (bif decide (i160 < (r29.length : Int)) then (Option.bind (getI l164 i160) fun x167 => (Option.bind (getI l164 i160) fun x174 => (F_impl_LatchSystem_shifted_L1 a1_by r29 k0 m (IntKind.wrap IntKind.i64 (i160 + 1)) ((l164.set (i160).toNat ((S_LatchLink.mk x174.From x174.To x174.Delay (IntKind.wrap IntKind.i64 (x167.Shift + a1_by))))))))) else (k0 i160 l164)) := rfl

def F_impl_LatchSystem_shifted (n : Nat) (a0_s : S_LatchSystem) (a1_by : Int) : Option S_LatchSystem := (Option.bind (F_slices_Clone_impl_Latch_impl_Latch n a0_s.Latches) fun r19 => (Option.bind (F_slices_Clone_impl_LatchLink_impl_LatchLink n a0_s.Links) fun r29 => (F_impl_LatchSystem_shifted_L1 a1_by r29 (fun i160 l164 => (some ((S_LatchSystem.mk r19 l164)))) n 0 r29)))
set_option maxHeartbeats 4000000 in
theorem W_impl_LatchSystem_shifted {n : Nat} {a0_s : S_LatchSystem} {a1_by : Int} {r : S_LatchSystem} {w : World} {v1 : Value} {v3 : Value} (hF : F_impl_LatchSystem_shifted n a0_s a1_by = some r) (ha2 : slRep C_Latch w (Iv 0 w.heap.size) a0_s.Latches v1) (ha4 : slRep C_LatchLink w (Iv 0 w.heap.size) a0_s.Links v3) :
    Calls Try.prog 82 [.agg #[v1, v3], .int .i64 a1_by].toArray w (Ret fun u w2 => ∃ v0_0 v0_1, u = .agg #[v0_0, v0_1] ∧ ownR C_Latch w2 w.heap.size (Iv 0 0) 50 r.Latches v0_0 ∧ ownR C_LatchLink w2 w.heap.size (Iv 0 0) 77 r.Links v0_1 ∧ (∀ g q, v0_1.ownBlock = some g → v0_0.ownBlock = some q → g ≠ q) ∧ Ext w w2) := by
  refine calls_of Try.func82 rfl Try.ntmps82 ?_
  have he0 : Ext w w := Ext.refl w
  unfold F_impl_LatchSystem_shifted at hF
  refine WC.seq ?_
  refine WC.region ?_
  refine TL.eff rfl rfl (eff_box rfl rfl) ?_
  rintro _ w6 ⟨b5, rfl, hn7⟩
  obtain ⟨hn7e, hn7s, hn7x, hb8⟩ := hn7
  have hb8 : Box w6 b5 [v1, v3] 38 := hb8
  have he10 : Ext w w6 := Ext.trans he0 hn7x
  have hz11 := (hn7x).size
  have hlo9 : w.heap.size ≤ b5 := by rw [hn7e]; exact (he0).size
  refine TL.eff rfl rfl (eff_alloc rfl zn_38) ?_
  rintro _ w13 ⟨b12, rfl, hn14⟩
  obtain ⟨hn14e, hn14s, hn14x, hb15⟩ := hn14
  have hb15 : Box w13 b12 [.slice none 0 0, .slice none 0 0] 38 := hb15
  have he17 : Ext w w13 := Ext.trans he10 hn14x
  have hb8 := Box.ext hb8 hn14x
  have hz18 := (hn14x).size
  have hlo16 : w.heap.size ≤ b12 := by rw [hn14e]; exact (he10).size
  refine TL.done ?_
  refine NX.seq ?_
  refine WC.seq ?_
  obtain ⟨r19, hr20, hF⟩ := bsome hF
  obtain ⟨r29, hr30, hF⟩ := bsome hF
  refine WC.join (fun a wl => ∃ (b54 : Nat) (v56 : Value) (v59 : Value), Kn 32 [(1, .int .i64 a1_by), (4, .pointer (some ⟨b12, 0, none⟩)), (5, .pointer (some ⟨b54, 0, none⟩))] a ∧ Ext w wl ∧ w13.heap.size ≤ wl.heap.size ∧ Box wl b12 [.slice none 0 0, .slice none 0 0] 38 ∧ Box wl b54 [v56, v59] 38 ∧ (w13.heap.size ≤ b54 ∧ b54 < wl.heap.size) ∧ ownR C_Latch wl (w13.heap.size) (Iv 0 0) 50 r19 v56 ∧ (∀ q, v56.ownBlock = some q → w13.heap.size ≤ q ∧ q < wl.heap.size) ∧ ownR C_LatchLink wl (w13.heap.size) (Iv 0 0) 77 r29 v59 ∧ (∀ q, v59.ownBlock = some q → w13.heap.size ≤ q ∧ q < wl.heap.size) ∧ b54 ≠ b12 ∧ (∀ g, v56.ownBlock = some g → g ≠ b12) ∧ (∀ g, v56.ownBlock = some g → g ≠ b54) ∧ (∀ g, v59.ownBlock = some g → g ≠ b12) ∧ (∀ g, v59.ownBlock = some g → g ≠ b54) ∧ (∀ g q, v59.ownBlock = some g → v56.ownBlock = some q → g ≠ q)) ?_ ?_
  ·
    refine WC.held 8 Try.hm fun w70 hx71 => ?_
    have he72 : Ext w w70 := Ext.trans he17 hx71
    have hb8 := Box.ext hb8 hx71
    have hb15 := Box.ext hb15 hx71
    have hz73 := (hx71).size
    refine HL.yld 0 (by kernel_rfl) rfl (by kernel_rfl) rfl rfl (yld_fieldAddr rfl fo_38_0 rfl) ?_
    refine HL.yld 1 (by kernel_rfl) rfl (by kernel_rfl) rfl rfl (yld_load1 0 rfl ag_35 rfl (Box.cells hb8) rfl rfl) ?_
    refine HL.yld 3 (by kernel_rfl) rfl (by kernel_rfl) rfl rfl (yld_fieldAddr rfl fo_38_1 rfl) ?_
    refine HL.yld 4 (by kernel_rfl) rfl (by kernel_rfl) rfl rfl (yld_load1 1 rfl ag_36 rfl (Box.cells hb8) rfl rfl) ?_
    refine HL.many (js := [2, 7]) (by kernel_rfl) rfl (all_two ?_ ?_)
    ·
      refine HB.eff 2 rfl rfl (by kernel_rfl) rfl rfl (eff_call rfl gf_102 rfl (W_slices_Clone_impl_Latch_impl_Latch hr20 ((slRep.old ha2 he72 (Nat.le_refl _)).wide (Nat.le_refl _) (he72).size))) ?_
      rintro v76 w74 ⟨_, rfl, hs77, hx75⟩
      have hbs80 : Ext w70 w74 := Ext.trans (Ext.refl w70) hx75
      have he81 : Ext w w74 := Ext.trans he72 hx75
      have hb8 := Box.ext hb8 hx75
      have hb15 := Box.ext hb15 hx75
      have hz82 := (hx75).size
      have hbd79 := ownR.blk hs77
      refine ⟨hbs80, ?_⟩
      refine HL.many (js := [5, 7]) (by kernel_rfl) rfl (all_two ?_ ?_)
      ·
        refine HB.eff 5 rfl rfl (by kernel_rfl) rfl rfl (eff_call rfl gf_103 rfl (W_slices_Clone_impl_LatchLink_impl_LatchLink hr30 ((slRep.old ha4 he81 (Nat.le_refl _)).wide (Nat.le_refl _) (he81).size))) ?_
        rintro v85 w83 ⟨_, rfl, hs86, hx84⟩
        have hbs89 : Ext w70 w83 := Ext.trans hbs80 hx84
        have he90 : Ext w w83 := Ext.trans he81 hx84
        have hb8 := Box.ext hb8 hx84
        have hb15 := Box.ext hb15 hx84
        have hs77 := ownR.ext hs77 hx84
        have hz91 := (hx84).size
        have hbd88 := ownR.blk hs86
        refine ⟨hbs89, ?_⟩
        refine HL.yld 6 (by kernel_rfl) rfl (by kernel_rfl) rfl rfl (yld_build (uss := [(0, [v76]), (1, [v85])]) (out := [v76, v85]) rfl rfl zn_38 pl_38 (pt_cons (slRep.cl (ownR.slf hs77 (Nat.le_refl _) (Nat.le_refl _))) (pt_cons (slRep.cl (ownR.slf hs86 (Nat.le_refl _) (Nat.le_refl _))) rfl)) rfl) ?_
        refine HL.eff 7 rfl rfl (by kernel_rfl) rfl rfl (eff_alloc rfl zn_38) ?_
        rintro _ w93 ⟨b92, rfl, hn94⟩
        obtain ⟨hn94e, hn94s, hn94x, hb95⟩ := hn94
        have hb95 : Box w93 b92 [.slice none 0 0, .slice none 0 0] 38 := hb95
        have hbs97 : Ext w70 w93 := Ext.trans hbs89 hn94x
        have he98 : Ext w w93 := Ext.trans he90 hn94x
        have hb8 := Box.ext hb8 hn94x
        have hb15 := Box.ext hb15 hn94x
        have hs77 := ownR.ext hs77 hn94x
        have hs86 := ownR.ext hs86 hn94x
        have hz99 := (hn94x).size
        have hlo96 : w.heap.size ≤ b92 := by rw [hn94e]; exact (he90).size
        refine ⟨hbs97, ?_⟩
        refine HL.tail rfl (by kernel_rfl) rfl ?_
        refine TL.eff rfl rfl (eff_store rfl rfl rfl hb95 cn_38 (allc_cons (slRep.one (ownR.slf hs77 (Nat.le_refl _) (Nat.le_refl _))) (allc_cons (slRep.one (ownR.slf hs86 (Nat.le_refl _) (Nat.le_refl _))) allc_nil)) rfl) ?_
        rintro _ w100 ⟨hu101, hb102⟩
        have he103 : Ext w w100 := Below.trans he98 (Upd.below hu101 (by omega))
        have hb8 := Box.upd hb8 hu101 (by omega)
        have hb15 := Box.upd hb15 hu101 (by omega)
        have hs77 := ownR.upd hs77 hu101 (fun g hg => by have := hbd79 g hg; omega)
        have hs86 := ownR.upd hs86 hu101 (fun g hg => by have := hbd88 g hg; omega)
        have hz104 := (hu101).size
        have hb95 : Box w100 b92 [v76, v85] 38 := hb102
        refine TL.noPan (l := []) ?_
        exact fun a hK => ⟨rfl, b92, v76, v85, hK.weaken ⟨rfl, rfl, rfl, trivial⟩, he103, (by omega), hb15, hb95, ⟨by omega, Box.lt hb95⟩, (ownR.base hs77 (by omega)), (fun g hg => by have := hbd79 g hg; omega), (ownR.base hs86 (by omega)), (fun g hg => by have := hbd88 g hg; omega), (by omega), (fun g hg => by have := hbd79 g hg; omega), (fun g hg => by have := hbd79 g hg; omega), (fun g hg => by have := hbd88 g hg; omega), (fun g hg => by have := hbd88 g hg; omega), (fun g q hg hq => by have := hbd88 g hg; have := hbd79 q hq; omega)⟩
      ·
        refine HB.eff 7 rfl rfl (by kernel_rfl) rfl rfl (eff_alloc rfl zn_38) ?_
        rintro _ w106 ⟨b105, rfl, hn107⟩
        obtain ⟨hn107e, hn107s, hn107x, hb108⟩ := hn107
        have hb108 : Box w106 b105 [.slice none 0 0, .slice none 0 0] 38 := hb108
        have hbs110 : Ext w70 w106 := Ext.trans hbs80 hn107x
        have he111 : Ext w w106 := Ext.trans he81 hn107x
        have hb8 := Box.ext hb8 hn107x
        have hb15 := Box.ext hb15 hn107x
        have hs77 := ownR.ext hs77 hn107x
        have hz112 := (hn107x).size
        have hlo109 : w.heap.size ≤ b105 := by rw [hn107e]; exact (he81).size
        refine ⟨hbs110, ?_⟩
        refine HL.eff 5 rfl rfl (by kernel_rfl) rfl rfl (eff_call rfl gf_103 rfl (W_slices_Clone_impl_LatchLink_impl_LatchLink hr30 ((slRep.old ha4 he111 (Nat.le_refl _)).wide (Nat.le_refl _) (he111).size))) ?_
        rintro v115 w113 ⟨_, rfl, hs116, hx114⟩
        have hbs119 : Ext w70 w113 := Ext.trans hbs110 hx114
        have he120 : Ext w w113 := Ext.trans he111 hx114
        have hb8 := Box.ext hb8 hx114
        have hb15 := Box.ext hb15 hx114
        have hb108 := Box.ext hb108 hx114
        have hs77 := ownR.ext hs77 hx114
        have hz121 := (hx114).size
        have hbd118 := ownR.blk hs116
        refine ⟨hbs119, ?_⟩
        refine HL.yld 6 (by kernel_rfl) rfl (by kernel_rfl) rfl rfl (yld_build (uss := [(0, [v76]), (1, [v115])]) (out := [v76, v115]) rfl rfl zn_38 pl_38 (pt_cons (slRep.cl (ownR.slf hs77 (Nat.le_refl _) (Nat.le_refl _))) (pt_cons (slRep.cl (ownR.slf hs116 (Nat.le_refl _) (Nat.le_refl _))) rfl)) rfl) ?_
        refine HL.tail rfl (by kernel_rfl) rfl ?_
        refine TL.eff rfl rfl (eff_store rfl rfl rfl hb108 cn_38 (allc_cons (slRep.one (ownR.slf hs77 (Nat.le_refl _) (Nat.le_refl _))) (allc_cons (slRep.one (ownR.slf hs116 (Nat.le_refl _) (Nat.le_refl _))) allc_nil)) rfl) ?_
        rintro _ w122 ⟨hu123, hb124⟩
        have he125 : Ext w w122 := Below.trans he120 (Upd.below hu123 (by omega))
        have hb8 := Box.upd hb8 hu123 (by omega)
        have hb15 := Box.upd hb15 hu123 (by omega)
        have hs77 := ownR.upd hs77 hu123 (fun g hg => by have := hbd79 g hg; omega)
        have hs116 := ownR.upd hs116 hu123 (fun g hg => by have := hbd118 g hg; omega)
        have hz126 := (hu123).size
        have hb108 : Box w122 b105 [v76, v115] 38 := hb124
        refine TL.noPan (l := []) ?_
        exact fun a hK => ⟨rfl, b105, v76, v115, hK.weaken ⟨rfl, rfl, rfl, trivial⟩, he125, (by omega), hb15, hb108, ⟨by omega, Box.lt hb108⟩, (ownR.base hs77 (by omega)), (fun g hg => by have := hbd79 g hg; omega), (ownR.base hs116 (by omega)), (fun g hg => by have := hbd118 g hg; omega), (by omega), (fun g hg => by have := hbd79 g hg; omega), (fun g hg => by have := hbd79 g hg; omega), (fun g hg => by have := hbd118 g hg; omega), (fun g hg => by have := hbd118 g hg; omega), (fun g q hg hq => by have := hbd118 g hg; have := hbd79 q hq; omega)⟩
    ·
      refine HB.eff 7 rfl rfl (by kernel_rfl) rfl rfl (eff_alloc rfl zn_38) ?_
      rintro _ w128 ⟨b127, rfl, hn129⟩
      obtain ⟨hn129e, hn129s, hn129x, hb130⟩ := hn129
      have hb130 : Box w128 b127 [.slice none 0 0, .slice none 0 0] 38 := hb130
      have hbs132 : Ext w70 w128 := Ext.trans (Ext.refl w70) hn129x
      have he133 : Ext w w128 := Ext.trans he72 hn129x
      have hb8 := Box.ext hb8 hn129x
      have hb15 := Box.ext hb15 hn129x
      have hz134 := (hn129x).size
      have hlo131 : w.heap.size ≤ b127 := by rw [hn129e]; exact (he72).size
      refine ⟨hbs132, ?_⟩
      refine HL.eff 2 rfl rfl (by kernel_rfl) rfl rfl (eff_call rfl gf_102 rfl (W_slices_Clone_impl_Latch_impl_Latch hr20 ((slRep.old ha2 he133 (Nat.le_refl _)).wide (Nat.le_refl _) (he133).size))) ?_
      rintro v137 w135 ⟨_, rfl, hs138, hx136⟩
      have hbs141 : Ext w70 w135 := Ext.trans hbs132 hx136
      have he142 : Ext w w135 := Ext.trans he133 hx136
      have hb8 := Box.ext hb8 hx136
      have hb15 := Box.ext hb15 hx136
      have hb130 := Box.ext hb130 hx136
      have hz143 := (hx136).size
      have hbd140 := ownR.blk hs138
      refine ⟨hbs141, ?_⟩
      refine HL.eff 5 rfl rfl (by kernel_rfl) rfl rfl (eff_call rfl gf_103 rfl (W_slices_Clone_impl_LatchLink_impl_LatchLink hr30 ((slRep.old ha4 he142 (Nat.le_refl _)).wide (Nat.le_refl _) (he142).size))) ?_
      rintro v146 w144 ⟨_, rfl, hs147, hx145⟩
      have hbs150 : Ext w70 w144 := Ext.trans hbs141 hx145
      have he151 : Ext w w144 := Ext.trans he142 hx145
      have hb8 := Box.ext hb8 hx145
      have hb15 := Box.ext hb15 hx145
      have hb130 := Box.ext hb130 hx145
      have hs138 := ownR.ext hs138 hx145
      have hz152 := (hx145).size
      have hbd149 := ownR.blk hs147
      refine ⟨hbs150, ?_⟩
      refine HL.yld 6 (by kernel_rfl) rfl (by kernel_rfl) rfl rfl (yld_build (uss := [(0, [v137]), (1, [v146])]) (out := [v137, v146]) rfl rfl zn_38 pl_38 (pt_cons (slRep.cl (ownR.slf hs138 (Nat.le_refl _) (Nat.le_refl _))) (pt_cons (slRep.cl (ownR.slf hs147 (Nat.le_refl _) (Nat.le_refl _))) rfl)) rfl) ?_
      refine HL.tail rfl (by kernel_rfl) rfl ?_
      refine TL.eff rfl rfl (eff_store rfl rfl rfl hb130 cn_38 (allc_cons (slRep.one (ownR.slf hs138 (Nat.le_refl _) (Nat.le_refl _))) (allc_cons (slRep.one (ownR.slf hs147 (Nat.le_refl _) (Nat.le_refl _))) allc_nil)) rfl) ?_
      rintro _ w153 ⟨hu154, hb155⟩
      have he156 : Ext w w153 := Below.trans he151 (Upd.below hu154 (by omega))
      have hb8 := Box.upd hb8 hu154 (by omega)
      have hb15 := Box.upd hb15 hu154 (by omega)
      have hs138 := ownR.upd hs138 hu154 (fun g hg => by have := hbd140 g hg; omega)
      have hs147 := ownR.upd hs147 hu154 (fun g hg => by have := hbd149 g hg; omega)
      have hz157 := (hu154).size
      have hb130 : Box w153 b127 [v137, v146] 38 := hb155
      refine TL.noPan (l := []) ?_
      exact fun a hK => ⟨rfl, b127, v137, v146, hK.weaken ⟨rfl, rfl, rfl, trivial⟩, he156, (by omega), hb15, hb130, ⟨by omega, Box.lt hb130⟩, (ownR.base hs138 (by omega)), (fun g hg => by have := hbd140 g hg; omega), (ownR.base hs147 (by omega)), (fun g hg => by have := hbd149 g hg; omega), (by omega), (fun g hg => by have := hbd140 g hg; omega), (fun g hg => by have := hbd140 g hg; omega), (fun g hg => by have := hbd149 g hg; omega), (fun g hg => by have := hbd149 g hg; omega), (fun g q hg hq => by have := hbd149 g hg; have := hbd140 q hq; omega)⟩
  ·
    rintro a w51 ⟨b54, v56, v59, hK, he52, hz62, hb53, hb55, hlo63, hs57, hbd58, hs60, hbd61, hp64, hp65, hp66, hp67, hp68, hp69⟩
    revert hK; revert a; refine (?_ : NX _ _ _ _ _)
    refine NX.seq ?_
    refine WC.seq ?_
    refine WC.seq ?_
    refine WC.region ?_
    refine TL.yld rfl rfl (yld_fieldAddr rfl fo_38_1 rfl) ?_
    refine TL.yld rfl rfl (yld_load1 1 rfl ag_36 rfl (Box.cells hb55) rfl rfl) ?_
    refine TL.yld rfl rfl (yld_len_own (c := C_LatchLink) rfl Try.underlying36 rfl hs60) ?_
    refine TL.yld rfl rfl (yld_move rfl rfl) ?_
    refine TL.done ?_
    refine NX.seq ?_
    refine WC.block ?_
    refine WC.loop (fun m166 a wl => ∃ (i160 : Int) (l164 : List S_LatchLink), Kn 32 [(1, .int .i64 a1_by), (4, .pointer (some ⟨b12, 0, none⟩)), (5, .pointer (some ⟨b54, 0, none⟩)), (16, .int .i64 ((r29.length : Int))), (17, .int .i64 i160)] a ∧ Ext w wl ∧ w51.heap.size ≤ wl.heap.size ∧ Box wl b12 [.slice none 0 0, .slice none 0 0] 38 ∧ Box wl b54 [v56, v59] 38 ∧ ownR C_Latch wl (w13.heap.size) (Iv 0 0) 50 r19 v56 ∧ ownR C_LatchLink wl (w13.heap.size) (Iv 0 0) 77 l164 v59 ∧ F_impl_LatchSystem_shifted_L1 a1_by r29 (fun i160 l164 => (some ((S_LatchSystem.mk r19 l164)))) m166 i160 l164 = some r) n ?_ ?_
    · intro a hK; exact ⟨0, r29, hK.weaken ⟨rfl, rfl, rfl, rfl, rfl, trivial⟩, he52, Nat.le_refl _, hb53, hb55, hs57, hs60, hF⟩
    · rintro m166 a w158 ⟨i160, l164, hK, he159, hz167, hb161, hb162, hs163, hs165, hF⟩
      revert hK; revert a; refine (?_ : WC _ _ _ _ _ _)
      cases m166 with
      | zero => rw [F_impl_LatchSystem_shifted_L1_z] at hF; cases hF
      | succ m166 =>
        rw [F_impl_LatchSystem_shifted_L1_s] at hF
        refine WC.seq ?_
        refine WC.region ?_
        refine TL.yld rfl rfl (yld_lss rfl rfl rfl) ?_
        refine TL.done ?_
        refine NX.seq ?_
        refine WC.seq ?_
        refine WC.cond rfl ?_ ?_
        · intro hc168
          replace hF := bif_t hc168 hF
          refine WC.skip' ?_
          refine NX.seq ?_
          refine WC.seq ?_
          refine WC.block ?_
          refine WC.seq ?_
          refine WC.region ?_
          refine TL.yld rfl rfl (yld_move rfl rfl) ?_
          refine TL.yld rfl rfl (yld_assign rfl rfl) ?_
          refine TL.done ?_
          refine NX.seq ?_
          refine WC.region ?_
          refine TL.yld rfl rfl (yld_fieldAddr rfl fo_38_1 rfl) ?_
          refine TL.yld rfl rfl (yld_load1 1 rfl ag_36 rfl (Box.cells hb162) rfl rfl) ?_
          refine TL.yld rfl rfl (yld_move rfl rfl) ?_
          obtain ⟨x169, hy170, hF⟩ := bsome hF
          refine TL.ye rfl rfl (ye_index_own (c := C_LatchLink) rfl Try.underlying36 cn_77 rfl rfl hs165 hy170) ?_
          rintro _ ⟨g171, us173, rfl, hg172, hr174, hcl175⟩
          have hr174r := hr174
          obtain rfl := C_LatchLink_open hr174
          refine TL.yld rfl rfl (yld_fieldAddr rfl fo_77_3 rfl) ?_
          refine TL.yld rfl rfl (yld_load1 3 rfl ag_2 rfl hcl175 rfl rfl) ?_
          refine TL.yld rfl rfl (yld_move rfl rfl) ?_
          refine TL.yld rfl rfl (yld_add rfl rfl rfl) ?_
          obtain ⟨x176, hy177, hF⟩ := bsome hF
          refine TL.ye rfl rfl (ye_index_own (c := C_LatchLink) rfl Try.underlying36 cn_77 rfl rfl hs165 hy177) ?_
          rintro _ ⟨g178, us180, rfl, hg179, hr181, hcl182⟩
          have hr181r := hr181
          obtain rfl := C_LatchLink_open hr181
          refine TL.yld rfl rfl (yld_fieldAddr rfl fo_77_3 rfl) ?_
          refine TL.eff rfl rfl (eff_store_own (c := C_LatchLink) (us' := [.int .i64 x176.From, .int .i64 x176.To, .int .i64 x176.Delay, .int .i64 (IntKind.wrap IntKind.i64 (x169.Shift + a1_by))]) (y' := (S_LatchLink.mk x176.From x176.To x176.Delay (IntKind.wrap IntKind.i64 (x169.Shift + a1_by)))) 3 _ rfl rfl rfl hs165 hg179 hy177 rfl cn_2 rfl hr181r hcl182 rfl rfl C_LatchLink_mk (fun k h => absurd h.2 (Nat.not_lt_zero k))) ?_
          rintro _ w183 ⟨hu184, hs185⟩
          have he186 : Ext w w183 := Below.trans he159 (Upd.below hu184 (by have := hbd61 _ hg179; omega))
          have hb161 := Box.upd hb161 hu184 (by have := hp67 _ hg179; omega)
          have hb162 := Box.upd hb162 hu184 (by have := hp68 _ hg179; omega)
          have hs163 := ownR.upd hs163 hu184 (fun q hq => by have := hp69 _ q hg179 hq; omega)
          have hz187 := (hu184).size
          refine TL.done ?_
          refine NX.blk_n ?_
          refine NX.seq ?_
          refine WC.region ?_
          refine TL.yld rfl rfl (yld_add rfl rfl rfl) ?_
          refine TL.yld rfl rfl (yld_move rfl rfl) ?_
          refine TL.done ?_
          refine NX.then_n ?_
          intro a hK; exact ⟨m166, Nat.lt_succ_self m166, (IntKind.wrap IntKind.i64 (i160 + 1)), ((l164.set (i160).toNat ((S_LatchLink.mk x176.From x176.To x176.Delay (IntKind.wrap IntKind.i64 (x169.Shift + a1_by)))))), hK.weaken ⟨rfl, rfl, rfl, rfl, rfl, trivial⟩, he186, (by omega), hb161, hb162, hs163, hs185, hF⟩
        · intro hc188
          replace hF := bif_f hc188 hF
          refine WC.exit' ?_
          refine NX.then_e ?_
          refine NX.then_e ?_
          refine NX.blk_hit ?_
          refine NX.seq ?_
          refine WC.seq ?_
          refine WC.region ?_
          refine TL.yld rfl rfl (yld_loadN (us := [v56, v59]) rfl ag_38 rfl (Box.cells hb162) cn_38) ?_
          refine TL.eff rfl rfl (eff_store rfl rfl rfl hb161 cn_38 (allc_cons (slRep.one (ownR.slf hs163 (Nat.le_refl _) (Nat.le_refl _))) (allc_cons (slRep.one (ownR.slf hs165 (Nat.le_refl _) (Nat.le_refl _))) allc_nil)) rfl) ?_
          rintro _ w189 ⟨hu190, hb191⟩
          have he192 : Ext w w189 := Below.trans he159 (Upd.below hu190 (by omega))
          have hb162 := Box.upd hb162 hu190 (by omega)
          have hs163 := ownR.upd hs163 hu190 hp65
          have hs165 := ownR.upd hs165 hu190 hp67
          have hz193 := (hu190).size
          have hb161 : Box w189 b12 [v56, v59] 38 := hb191
          refine TL.done ?_
          refine NX.seq ?_
          refine WC.ret' ?_
          obtain rfl := Option.some.inj hF
          exact NX.end (rs := [.cell 4 38]) (vs := [.agg #[v56, v59]]) rfl ⟨⟨b12, rfl, box_load ag_38 cn_38 hb161⟩, trivial⟩ ⟨_, rfl, _, _, rfl, ownR.base hs163 (by omega), ownR.base hs165 (by omega), hp69, he192⟩

-- loop.example/g00861/impl.ShiftLinks
def F_impl_ShiftLinks (n : Nat) (a0_s : S_LatchSystem) (a1_by : Int) : Option (S_LatchSystem × Int) := (Option.bind (F_impl_IsLatchSystem n a0_s) fun r19 => (bif (!r19) then (some ((S_LatchSystem.mk (([] : List S_Latch)) (([] : List S_LatchLink))), 1)) else (Option.bind (bif decide (a1_by < 0) then (some true) else (Option.bind (bif decide ((a0_s.Links.length : Int) > 0) then (Option.bind (F_impl_LatchSystem_room n a0_s) fun r32 => (some (decide (a1_by > r32)))) else (some false)) fun c32 => (some c32))) fun c32 => (bif c32 then (some ((S_LatchSystem.mk (([] : List S_Latch)) (([] : List S_LatchLink))), 2)) else (Option.bind (F_impl_LatchSystem_shifted n a0_s a1_by) fun r59 => (some (r59, 0)))))))
set_option maxHeartbeats 4000000 in
theorem W_impl_ShiftLinks {n : Nat} {a0_s : S_LatchSystem} {a1_by : Int} {r : S_LatchSystem × Int} {w : World} {v1 : Value} {v3 : Value} (hF : F_impl_ShiftLinks n a0_s a1_by = some r) (ha2 : slRep C_Latch w (Iv 0 w.heap.size) a0_s.Latches v1) (ha4 : slRep C_LatchLink w (Iv 0 w.heap.size) a0_s.Links v3) :
    Calls Try.prog 42 [.agg #[v1, v3], .int .i64 a1_by].toArray w (Ret fun u w2 => ∃ v0_0 v0_1, u = .tuple #[.agg #[v0_0, v0_1], .int .i64 r.2] ∧ ownR C_Latch w2 w.heap.size (Iv 0 0) 50 r.1.Latches v0_0 ∧ ownR C_LatchLink w2 w.heap.size (Iv 0 0) 77 r.1.Links v0_1 ∧ (∀ g q, v0_1.ownBlock = some g → v0_0.ownBlock = some q → g ≠ q) ∧ Ext w w2) := by
  refine calls_of Try.func42 rfl Try.ntmps42 ?_
  have he0 : Ext w w := Ext.refl w
  unfold F_impl_ShiftLinks at hF
  refine WC.seq ?_
  refine WC.region ?_
  refine TL.eff rfl rfl (eff_box rfl rfl) ?_
  rintro _ w6 ⟨b5, rfl, hn7⟩
  obtain ⟨hn7e, hn7s, hn7x, hb8⟩ := hn7
  have hb8 : Box w6 b5 [v1, v3] 38 := hb8
  have he10 : Ext w w6 := Ext.trans he0 hn7x
  have hz11 := (hn7x).size
  have hlo9 : w.heap.size ≤ b5 := by rw [hn7e]; exact (he0).size
  refine TL.eff rfl rfl (eff_alloc rfl zn_38) ?_
  rintro _ w13 ⟨b12, rfl, hn14⟩
  obtain ⟨hn14e, hn14s, hn14x, hb15⟩ := hn14
  have hb15 : Box w13 b12 [.slice none 0 0, .slice none 0 0] 38 := hb15
  have he17 : Ext w w13 := Ext.trans he10 hn14x
  have hb8 := Box.ext hb8 hn14x
  have hz18 := (hn14x).size
  have hlo16 : w.heap.size ≤ b12 := by rw [hn14e]; exact (he10).size
  refine TL.yld rfl rfl (yld_assign rfl rfl) ?_
  refine TL.done ?_
  refine NX.seq ?_
  refine WC.seq ?_
  refine WC.block ?_
  refine WC.seq ?_
  refine WC.region ?_
  refine TL.yld rfl rfl (yld_loadN (us := [v1, v3]) rfl ag_38 rfl (Box.cells hb8) cn_38) ?_
  obtain ⟨r19, hr20, hF⟩ := bsome hF
  refine TL.eff rfl rfl (eff_call rfl gf_21 rfl (W_impl_IsLatchSystem hr20 ((slRep.old ha2 he17 (Nat.le_refl _)).wide (Nat.le_refl _) (he17).size) ((slRep.old ha4 he17 (Nat.le_refl _)).wide (Nat.le_refl _) (he17).size))) ?_
  rintro _ w21 ⟨rfl, hx22⟩
  have he23 : Ext w w21 := Ext.trans he17 hx22
  have hb8 := Box.ext hb8 hx22
  have hb15 := Box.ext hb15 hx22
  have hz24 := (hx22).size
  refine TL.yld rfl rfl (yld_not rfl rfl) ?_
  refine TL.yld rfl rfl (yld_assign rfl rfl) ?_
  refine TL.done ?_
  refine NX.seq ?_
  refine WC.cond rfl ?_ ?_
  · intro hc25
    replace hF := bif_t hc25 hF
    refine WC.seq ?_
    refine WC.region ?_
    refine TL.yld rfl rfl (yld_build (uss := []) (out := [.slice none 0 0, .slice none 0 0]) rfl rfl zn_38 pl_38 rfl rfl) ?_
    refine TL.eff rfl rfl (eff_store rfl rfl rfl hb15 cn_38 rfl rfl) ?_
    rintro _ w26 ⟨hu27, hb28⟩
    have he29 : Ext w w26 := Below.trans he23 (Upd.below hu27 (by omega))
    have hb8 := Box.upd hb8 hu27 (by omega)
    have hz30 := (hu27).size
    have hb15 : Box w26 b12 [.slice none 0 0, .slice none 0 0] 38 := hb28
    refine TL.yld rfl rfl (yld_assign rfl rfl) ?_
    refine TL.done ?_
    refine NX.seq ?_
    refine WC.ret' ?_
    refine NX.blk_r ?_
    refine NX.then_r ?_
    obtain rfl := Option.some.inj hF
    exact NX.end (rs := [.cell 4 38, .tmp 5]) (vs := [.agg #[.slice none 0 0, .slice none 0 0], .int .i64 1]) rfl ⟨⟨b12, rfl, box_load ag_38 cn_38 hb15⟩, rfl, trivial⟩ ⟨_, rfl, _, _, rfl, ownR.nil _ _ _ _ _, ownR.nil _ _ _ _ _, (fun g q hg hq => by first | cases hg | cases hq), he29⟩
  · intro hc31
    replace hF := bif_f hc31 hF
    refine WC.seq ?_
    refine WC.region ?_
    refine TL.yld rfl rfl (yld_move rfl rfl) ?_
    refine TL.yld rfl rfl (yld_lss rfl rfl rfl) ?_
    refine TL.yld rfl rfl (yld_move rfl rfl) ?_
    obtain ⟨c32, hb33, hF⟩ := bsome hF
    refine TL.cut 11 [(1, .int .i64 a1_by), (2, .pointer (some ⟨b5, 0, none⟩)), (4, .pointer (some ⟨b12, 0, none⟩)), (25, .bool c32)] (fun w' => Ext w21 w') ?_ ?_
    · rcases Bool.eq_false_or_eq_true (decide (a1_by < 0)) with hg34 | hg34
      ·
        rw [hg34] at hb33; simp only [cond_true, cond_false] at hb33
        refine TL.gnu (j := 2) (t := 14) rfl rfl rfl hg34 rfl ?_
        refine TL.gnu (j := 2) (t := 14) rfl rfl rfl hg34 rfl ?_
        refine TL.gnu (j := 2) (t := 14) rfl rfl rfl hg34 rfl ?_
        refine TL.gnu (j := 2) (t := 14) rfl rfl rfl hg34 rfl ?_
        refine TL.gnu (j := 2) (t := 14) rfl rfl rfl hg34 rfl ?_
        refine TL.gu (j := 7) (t := 19) rfl rfl rfl rfl ?_
        refine TL.gu (j := 7) (t := 19) rfl rfl rfl rfl ?_
        refine TL.gu (j := 7) (t := 19) rfl rfl rfl rfl ?_
        refine TL.gu (j := 7) (t := 19) rfl rfl rfl rfl ?_
        refine TL.gnu (j := 2) (t := 14) rfl rfl rfl hg34 rfl ?_
        obtain rfl := Option.some.inj hb33
        refine TL.yld rfl rfl (yld_pick_t rfl rfl hg34 rfl) ?_
        exact TL.nil fun a h => ⟨h.weaken ⟨rfl, rfl, rfl, rfl, trivial⟩, Ext.refl _⟩
      ·
        rw [hg34] at hb33; simp only [cond_true, cond_false] at hb33
        replace hF := hb33
        refine TL.gy (j := 2) (t := 14) rfl rfl rfl hg34 rfl (yld_fieldAddr rfl fo_38_1 rfl) ?_
        refine TL.gy (j := 2) (t := 14) rfl rfl rfl hg34 rfl (yld_load1 1 rfl ag_36 rfl (Box.cells hb8) rfl rfl) ?_
        refine TL.gy (j := 2) (t := 14) rfl rfl rfl hg34 rfl (ye_len (c := C_LatchLink) rfl Try.underlying36 rfl (slRep.old ha4 he23 (Nat.le_refl _))) ?_
        refine TL.gy (j := 2) (t := 14) rfl rfl rfl hg34 rfl (yld_gtr rfl rfl rfl) ?_
        refine TL.gy (j := 2) (t := 14) rfl rfl rfl hg34 rfl (yld_move rfl rfl) ?_
        obtain ⟨c35, hb36, hF⟩ := bsome hF
        refine TL.cut 5 [(1, .int .i64 a1_by), (2, .pointer (some ⟨b5, 0, none⟩)), (4, .pointer (some ⟨b12, 0, none⟩)), (14, .bool (decide (a1_by < 0))), (24, .bool c35)] (fun w' => Ext w21 w') ?_ ?_
        · rcases Bool.eq_false_or_eq_true (decide ((a0_s.Links.length : Int) > 0)) with hg37 | hg37
          ·
            rw [hg37] at hb36; simp only [cond_true, cond_false] at hb36
            replace hF := hb36
            refine TL.gy (j := 7) (t := 19) rfl rfl rfl hg37 rfl (yld_move rfl rfl) ?_
            refine TL.gy (j := 7) (t := 19) rfl rfl rfl hg37 rfl (yld_loadN (us := [v1, v3]) rfl ag_38 rfl (Box.cells hb8) cn_38) ?_
            obtain ⟨r38, hr39, hF⟩ := bsome hF
            refine TL.ge (j := 7) (t := 19) rfl rfl rfl hg37 rfl (eff_call rfl gf_81 rfl (W_impl_LatchSystem_room hr39 ((slRep.old ha2 he23 (Nat.le_refl _)).wide (Nat.le_refl _) (he23).size) ((slRep.old ha4 he23 (Nat.le_refl _)).wide (Nat.le_refl _) (he23).size))) ?_
            rintro _ w40 ⟨rfl, hx41⟩
            have he42 : Ext w w40 := Ext.trans he23 hx41
            have hb8 := Box.ext hb8 hx41
            have hb15 := Box.ext hb15 hx41
            have hz43 := (hx41).size
            refine TL.gy (j := 7) (t := 19) rfl rfl rfl hg37 rfl (yld_gtr rfl rfl rfl) ?_
            obtain rfl := Option.some.inj hF
            refine TL.gy (j := 2) (t := 14) rfl rfl rfl hg34 rfl (yld_pick_t rfl rfl hg37 rfl) ?_
            exact TL.nil fun a h => ⟨h.weaken ⟨rfl, rfl, rfl, rfl, rfl, trivial⟩, hx41⟩
          ·
            rw [hg37] at hb36; simp only [cond_true, cond_false] at hb36
            refine TL.gnu (j := 7) (t := 19) rfl rfl rfl hg37 rfl ?_
            refine TL.gnu (j := 7) (t := 19) rfl rfl rfl hg37 rfl ?_
            refine TL.gnu (j := 7) (t := 19) rfl rfl rfl hg37 rfl ?_
            refine TL.gnu (j := 7) (t := 19) rfl rfl rfl hg37 rfl ?_
            obtain rfl := Option.some.inj hb36
            refine TL.gy (j := 2) (t := 14) rfl rfl rfl hg34 rfl (yld_pick_f rfl rfl hg37 rfl) ?_
            exact TL.nil fun a h => ⟨h.weaken ⟨rfl, rfl, rfl, rfl, rfl, trivial⟩, Ext.refl _⟩
        intro w44 hx45
        have he46 : Ext w w44 := Ext.trans he23 hx45
        have hb8 := Box.ext hb8 hx45
        have hb15 := Box.ext hb15 hx45
        have hz47 := (hx45).size
        obtain rfl := Option.some.inj hF
        refine TL.yld rfl rfl (yld_pick_f rfl rfl hg34 rfl) ?_
        exact TL.nil fun a h => ⟨h.weaken ⟨rfl, rfl, rfl, rfl, trivial⟩, hx45⟩
    intro w48 hx49
    have he50 : Ext w w48 := Ext.trans he23 hx49
    have hb8 := Box.ext hb8 hx49
    have hb15 := Box.ext hb15 hx49
    have hz51 := (hx49).size
    refine TL.yld rfl rfl (yld_assign rfl rfl) ?_
    refine TL.done ?_
    refine NX.seq ?_
    refine WC.cond rfl ?_ ?_
    · intro hc52
      replace hF := bif_t hc52 hF
      refine WC.seq ?_
      refine WC.region ?_
      refine TL.yld rfl rfl (yld_build (uss := []) (out := [.slice none 0 0, .slice none 0 0]) rfl rfl zn_38 pl_38 rfl rfl) ?_
      refine TL.eff rfl rfl (eff_store rfl rfl rfl hb15 cn_38 rfl rfl) ?_
      rintro _ w53 ⟨hu54, hb55⟩
      have he56 : Ext w w53 := Below.trans he50 (Upd.below hu54 (by omega))
      have hb8 := Box.upd hb8 hu54 (by omega)
      have hz57 := (hu54).size
      have hb15 : Box w53 b12 [.slice none 0 0, .slice none 0 0] 38 := hb55
      refine TL.yld rfl rfl (yld_assign rfl rfl) ?_
      refine TL.done ?_
      refine NX.seq ?_
      refine WC.ret' ?_
      refine NX.blk_r ?_
      refine NX.then_r ?_
      obtain rfl := Option.some.inj hF
      exact NX.end (rs := [.cell 4 38, .tmp 5]) (vs := [.agg #[.slice none 0 0, .slice none 0 0], .int .i64 2]) rfl ⟨⟨b12, rfl, box_load ag_38 cn_38 hb15⟩, rfl, trivial⟩ ⟨_, rfl, _, _, rfl, ownR.nil _ _ _ _ _, ownR.nil _ _ _ _ _, (fun g q hg hq => by first | cases hg | cases hq), he56⟩
    · intro hc58
      replace hF := bif_f hc58 hF
      refine WC.skip' ?_
      refine NX.blk_n ?_
      refine NX.seq ?_
      refine WC.seq ?_
      refine WC.region ?_
      refine TL.yld rfl rfl (yld_loadN (us := [v1, v3]) rfl ag_38 rfl (Box.cells hb8) cn_38) ?_
      refine TL.yld rfl rfl (yld_move rfl rfl) ?_
      obtain ⟨r59, hr60, hF⟩ := bsome hF
      refine TL.eff rfl rfl (eff_call rfl gf_82 rfl (W_impl_LatchSystem_shifted hr60 ((slRep.old ha2 he50 (Nat.le_refl _)).wide (Nat.le_refl _) (he50).size) ((slRep.old ha4 he50 (Nat.le_refl _)).wide (Nat.le_refl _) (he50).size))) ?_
      rintro _ w61 ⟨v63, v65, rfl, hs64, hs66, hp71, hx62⟩
      have he72 : Ext w w61 := Ext.trans he50 hx62
      have hb8 := Box.ext hb8 hx62
      have hb15 := Box.ext hb15 hx62
      have hz73 := (hx62).size
      have hbd68 := ownR.blk hs64
      have hbd70 := ownR.blk hs66
      refine TL.eff rfl rfl (eff_store rfl rfl rfl hb15 cn_38 (allc_cons (slRep.one (ownR.slf hs64 (Nat.le_refl _) (Nat.le_refl _))) (allc_cons (slRep.one (ownR.slf hs66 (Nat.le_refl _) (Nat.le_refl _))) allc_nil)) rfl) ?_
      rintro _ w74 ⟨hu75, hb76⟩
      have he77 : Ext w w74 := Below.trans he72 (Upd.below hu75 (by omega))
      have hb8 := Box.upd hb8 hu75 (by omega)
      have hs64 := ownR.upd hs64 hu75 (fun g hg => by have := hbd68 g hg; omega)
      have hs66 := ownR.upd hs66 hu75 (fun g hg => by have := hbd70 g hg; omega)
      have hz78 := (hu75).size
      have hb15 : Box w74 b12 [v63, v65] 38 := hb76
      refine TL.yld rfl rfl (yld_assign rfl rfl) ?_
      refine TL.done ?_
      refine NX.seq ?_
      refine WC.ret' ?_
      obtain rfl := Option.some.inj hF
      exact NX.end (rs := [.cell 4 38, .tmp 5]) (vs := [.agg #[v63, v65], .int .i64 0]) rfl ⟨⟨b12, rfl, box_load ag_38 cn_38 hb15⟩, rfl, trivial⟩ ⟨_, rfl, _, _, rfl, ownR.base hs64 (by omega), ownR.base hs66 (by omega), hp71, he77⟩

-- loop.example/g00861/laws.markLatchS
def F_laws_markLatchS_L1 (k0 : Int → Int → (List S_Latch) → Option (Int × (List S_Latch))) : Nat → Int → Int → (List S_Latch) → Option (Int × (List S_Latch))
  | 0 => fun _ _ _ => none
  | m + 1 => fun i8 i9 l10 => (bif decide (i9 < (l10.length : Int)) then (Option.bind (getI l10 i9) fun x13 => (Option.bind (getI ((l10.set (i9).toNat ((S_Latch.mk i8 x13.Close)))) i9) fun x25 => (F_laws_markLatchS_L1 k0 m (IntKind.wrap IntKind.i64 ((IntKind.wrap IntKind.i64 (i8 + 1)) + 1)) (IntKind.wrap IntKind.i64 (i9 + 1)) ((((l10.set (i9).toNat ((S_Latch.mk i8 x13.Close)))).set (i9).toNat ((S_Latch.mk x25.Open (IntKind.wrap IntKind.i64 (i8 + 1))))))))) else (k0 i8 i9 l10))
theorem F_laws_markLatchS_L1_z (k0 : Int → Int → (List S_Latch) → Option (Int × (List S_Latch))) (i8 : Int) (i9 : Int) (l10 : List S_Latch) : F_laws_markLatchS_L1 k0 0 i8 i9 l10 = none := rfl
theorem F_laws_markLatchS_L1_s (m : Nat) (k0 : Int → Int → (List S_Latch) → Option (Int × (List S_Latch))) (i8 : Int) (i9 : Int) (l10 : List S_Latch) : F_laws_markLatchS_L1 k0 (m + 1) i8 i9 l10 = (bif decide (i9 < (l10.length : Int)) then (Option.bind (getI l10 i9) fun x13 => (Option.bind (getI ((l10.set (i9).toNat ((S_Latch.mk i8 x13.Close)))) i9) fun x25 => (F_laws_markLatchS_L1 k0 m (IntKind.wrap IntKind.i64 ((IntKind.wrap IntKind.i64 (i8 + 1)) + 1)) (IntKind.wrap IntKind.i64 (i9 + 1)) ((((l10.set (i9).toNat ((S_Latch.mk i8 x13.Close)))).set (i9).toNat ((S_Latch.mk x25.Open (IntKind.wrap IntKind.i64 (i8 + 1))))))))) else (k0 i8 i9 l10)) := rfl

def F_laws_markLatchS (n : Nat) (a0_a : List S_Latch) (a1_k : Int) : Option (Int × (List S_Latch)) := (F_laws_markLatchS_L1 (fun i8 i9 l10 => (some (i8, l10))) n a1_k 0 a0_a)
set_option maxHeartbeats 4000000 in
theorem W_laws_markLatchS {n : Nat} {a0_a : List S_Latch} {a1_k : Int} {r : Int × (List S_Latch)} {w : World} {v1 : Value} {B3 : Nat} (hF : F_laws_markLatchS n a0_a a1_k = some r) (ha2 : ownR C_Latch w B3 (Iv 0 0) 50 a0_a v1) :
    Calls Try.prog 83 [v1, .int .i64 a1_k].toArray w (Ret fun u w2 => u = .int .i64 r.1 ∧ ownR C_Latch w2 B3 (Iv 0 0) 50 r.2 v1 ∧ But (pO v1) w w2) := by
  refine calls_of Try.func83 rfl Try.ntmps83 ?_
  have he0 : But (pO v1) w w := But.refl _ w
  have hbd5 := ownR.blk ha2
  unfold F_laws_markLatchS at hF
  refine WC.seq ?_
  refine WC.region ?_
  refine TL.yld rfl rfl (yld_assign rfl rfl) ?_
  refine TL.done ?_
  refine NX.seq ?_
  refine WC.seq ?_
  refine WC.seq ?_
  refine WC.region ?_
  refine TL.yld rfl rfl (yld_assign rfl rfl) ?_
  refine TL.done ?_
  refine NX.seq ?_
  refine WC.block ?_
  refine WC.loop (fun m12 a wl => ∃ (i8 : Int) (i9 : Int) (l10 : List S_Latch), Kn 27 [(0, v1), (1, .int .i64 i8), (5, .int .i64 i9)] a ∧ But (pO v1) w wl ∧ w.heap.size ≤ wl.heap.size ∧ ownR C_Latch wl (B3) (Iv 0 0) 50 l10 v1 ∧ F_laws_markLatchS_L1 (fun i8 i9 l10 => (some (i8, l10))) m12 i8 i9 l10 = some r) n ?_ ?_
  · intro a hK; exact ⟨a1_k, 0, a0_a, hK.weaken ⟨rfl, rfl, rfl, trivial⟩, he0, Nat.le_refl _, ha2, hF⟩
  · rintro m12 a w6 ⟨i8, i9, l10, hK, he7, hz13, hs11, hF⟩
    revert hK; revert a; refine (?_ : WC _ _ _ _ _ _)
    cases m12 with
    | zero => rw [F_laws_markLatchS_L1_z] at hF; cases hF
    | succ m12 =>
      rw [F_laws_markLatchS_L1_s] at hF
      refine WC.seq ?_
      refine WC.seq ?_
      refine WC.region ?_
      refine TL.yld rfl rfl (yld_move rfl rfl) ?_
      refine TL.yld rfl rfl (yld_move rfl rfl) ?_
      refine TL.yld rfl rfl (yld_len_own (c := C_Latch) rfl Try.underlying35 rfl hs11) ?_
      refine TL.yld rfl rfl (yld_lss rfl rfl rfl) ?_
      refine TL.done ?_
      refine NX.seq ?_
      refine WC.cond rfl ?_ ?_
      · intro hc14
        replace hF := bif_t hc14 hF
        refine WC.skip' ?_
        refine NX.seq ?_
        refine WC.seq ?_
        refine WC.block ?_
        refine WC.seq ?_
        refine WC.region ?_
        refine TL.yld rfl rfl (yld_move rfl rfl) ?_
        refine TL.yld rfl rfl (yld_move rfl rfl) ?_
        refine TL.yld rfl rfl (yld_move rfl rfl) ?_
        obtain ⟨x15, hy16, hF⟩ := bsome hF
        refine TL.ye rfl rfl (ye_index_own (c := C_Latch) rfl Try.underlying35 cn_50 rfl rfl hs11 hy16) ?_
        rintro _ ⟨g17, us19, rfl, hg18, hr20, hcl21⟩
        have hr20r := hr20
        obtain rfl := C_Latch_open hr20
        refine TL.yld rfl rfl (yld_fieldAddr rfl fo_50_0 rfl) ?_
        refine TL.eff rfl rfl (eff_store_own (c := C_Latch) (us' := [.int .i64 i8, .int .i64 x15.Close]) (y' := (S_Latch.mk i8 x15.Close)) 0 _ rfl rfl rfl hs11 hg18 hy16 rfl cn_2 rfl hr20r hcl21 rfl rfl C_Latch_mk (fun k h => absurd h.2 (Nat.not_lt_zero k))) ?_
        rintro _ w22 ⟨hu23, hs24⟩
        have he25 : But (pO v1) w w22 := But.upd he7 hu23 (Or.inl hg18)
        have hz26 := (hu23).size
        refine TL.done ?_
        refine NX.seq ?_
        refine WC.seq ?_
        refine WC.region ?_
        refine TL.yld rfl rfl (yld_move rfl rfl) ?_
        refine TL.yld rfl rfl (yld_add rfl rfl rfl) ?_
        refine TL.yld rfl rfl (yld_assign rfl rfl) ?_
        refine TL.done ?_
        refine NX.seq ?_
        refine WC.seq ?_
        refine WC.region ?_
        refine TL.yld rfl rfl (yld_move rfl rfl) ?_
        refine TL.yld rfl rfl (yld_move rfl rfl) ?_
        refine TL.yld rfl rfl (yld_move rfl rfl) ?_
        obtain ⟨x27, hy28, hF⟩ := bsome hF
        refine TL.ye rfl rfl (ye_index_own (c := C_Latch) rfl Try.underlying35 cn_50 rfl rfl hs24 hy28) ?_
        rintro _ ⟨g29, us31, rfl, hg30, hr32, hcl33⟩
        have hr32r := hr32
        obtain rfl := C_Latch_open hr32
        refine TL.yld rfl rfl (yld_fieldAddr rfl fo_50_1 rfl) ?_
        refine TL.eff rfl rfl (eff_store_own (c := C_Latch) (us' := [.int .i64 x27.Open, .int .i64 (IntKind.wrap IntKind.i64 (i8 + 1))]) (y' := (S_Latch.mk x27.Open (IntKind.wrap IntKind.i64 (i8 + 1)))) 1 _ rfl rfl rfl hs24 hg30 hy28 rfl cn_2 rfl hr32r hcl33 rfl rfl C_Latch_mk (fun k h => absurd h.2 (Nat.not_lt_zero k))) ?_
        rintro _ w34 ⟨hu35, hs36⟩
        have he37 : But (pO v1) w w34 := But.upd he25 hu35 (Or.inl hg30)
        have hz38 := (hu35).size
        refine TL.done ?_
        refine NX.seq ?_
        refine WC.region ?_
        refine TL.yld rfl rfl (yld_move rfl rfl) ?_
        refine TL.yld rfl rfl (yld_add rfl rfl rfl) ?_
        refine TL.yld rfl rfl (yld_assign rfl rfl) ?_
        refine TL.done ?_
        refine NX.blk_n ?_
        refine NX.seq ?_
        refine WC.region ?_
        refine TL.yld rfl rfl (yld_move rfl rfl) ?_
        refine TL.yld rfl rfl (yld_add rfl rfl rfl) ?_
        refine TL.yld rfl rfl (yld_assign rfl rfl) ?_
        refine TL.done ?_
        refine NX.then_n ?_
        intro a hK; exact ⟨m12, Nat.lt_succ_self m12, (IntKind.wrap IntKind.i64 ((IntKind.wrap IntKind.i64 (i8 + 1)) + 1)), (IntKind.wrap IntKind.i64 (i9 + 1)), ((((l10.set (i9).toNat ((S_Latch.mk i8 x15.Close)))).set (i9).toNat ((S_Latch.mk x27.Open (IntKind.wrap IntKind.i64 (i8 + 1)))))), hK.weaken ⟨rfl, rfl, rfl, trivial⟩, he37, (by omega), hs36, hF⟩
      · intro hc39
        replace hF := bif_f hc39 hF
        refine WC.exit' ?_
        refine NX.then_e ?_
        refine NX.then_e ?_
        refine NX.blk_hit ?_
        refine NX.seq ?_
        refine WC.seq ?_
        refine WC.region ?_
        refine TL.yld rfl rfl (yld_move rfl rfl) ?_
        refine TL.yld rfl rfl (yld_assign rfl rfl) ?_
        refine TL.done ?_
        refine NX.seq ?_
        refine WC.ret' ?_
        obtain rfl := Option.some.inj hF
        exact NX.end (rs := [.tmp 4]) (vs := [.int .i64 i8]) rfl ⟨rfl, trivial⟩ ⟨_, rfl, rfl, hs11, he7⟩

-- loop.example/g00861/laws.markLatchLinkS
def F_laws_markLatchLinkS_L1 (k0 : Int → Int → (List S_LatchLink) → Option (Int × (List S_LatchLink))) : Nat → Int → Int → (List S_LatchLink) → Option (Int × (List S_LatchLink))
  | 0 => fun _ _ _ => none
  | m + 1 => fun i8 i9 l10 => (bif decide (i9 < (l10.length : Int)) then (Option.bind (getI l10 i9) fun x13 => (Option.bind (getI ((l10.set (i9).toNat ((S_LatchLink.mk i8 x13.To x13.Delay x13.Shift)))) i9) fun x25 => (Option.bind (getI ((((l10.set (i9).toNat ((S_LatchLink.mk i8 x13.To x13.Delay x13.Shift)))).set (i9).toNat ((S_LatchLink.mk x25.From (IntKind.wrap IntKind.i64 (i8 + 1)) x25.Delay x25.Shift)))) i9) fun x37 => (Option.bind (getI ((((((l10.set (i9).toNat ((S_LatchLink.mk i8 x13.To x13.Delay x13.Shift)))).set (i9).toNat ((S_LatchLink.mk x25.From (IntKind.wrap IntKind.i64 (i8 + 1)) x25.Delay x25.Shift)))).set (i9).toNat ((S_LatchLink.mk x37.From x37.To (IntKind.wrap IntKind.i64 ((IntKind.wrap IntKind.i64 (i8 + 1)) + 1)) x37.Shift)))) i9) fun x49 => (F_laws_markLatchLinkS_L1 k0 m (IntKind.wrap IntKind.i64 ((IntKind.wrap IntKind.i64 ((IntKind.wrap IntKind.i64 ((IntKind.wrap IntKind.i64 (i8 + 1)) + 1)) + 1)) + 1)) (IntKind.wrap IntKind.i64 (i9 + 1)) ((((((((l10.set (i9).toNat ((S_LatchLink.mk i8 x13.To x13.Delay x13.Shift)))).set (i9).toNat ((S_LatchLink.mk x25.From (IntKind.wrap IntKind.i64 (i8 + 1)) x25.Delay x25.Shift)))).set (i9).toNat ((S_LatchLink.mk x37.From x37.To (IntKind.wrap IntKind.i64 ((IntKind.wrap IntKind.i64 (i8 + 1)) + 1)) x37.Shift)))).set (i9).toNat ((S_LatchLink.mk x49.From x49.To x49.Delay (IntKind.wrap IntKind.i64 ((IntKind.wrap IntKind.i64 ((IntKind.wrap IntKind.i64 (i8 + 1)) + 1)) + 1))))))))))) else (k0 i8 i9 l10))
theorem F_laws_markLatchLinkS_L1_z (k0 : Int → Int → (List S_LatchLink) → Option (Int × (List S_LatchLink))) (i8 : Int) (i9 : Int) (l10 : List S_LatchLink) : F_laws_markLatchLinkS_L1 k0 0 i8 i9 l10 = none := rfl
theorem F_laws_markLatchLinkS_L1_s (m : Nat) (k0 : Int → Int → (List S_LatchLink) → Option (Int × (List S_LatchLink))) (i8 : Int) (i9 : Int) (l10 : List S_LatchLink) : F_laws_markLatchLinkS_L1 k0 (m + 1) i8 i9 l10 = (bif decide (i9 < (l10.length : Int)) then (Option.bind (getI l10 i9) fun x13 => (Option.bind (getI ((l10.set (i9).toNat ((S_LatchLink.mk i8 x13.To x13.Delay x13.Shift)))) i9) fun x25 => (Option.bind (getI ((((l10.set (i9).toNat ((S_LatchLink.mk i8 x13.To x13.Delay x13.Shift)))).set (i9).toNat ((S_LatchLink.mk x25.From (IntKind.wrap IntKind.i64 (i8 + 1)) x25.Delay x25.Shift)))) i9) fun x37 => (Option.bind (getI ((((((l10.set (i9).toNat ((S_LatchLink.mk i8 x13.To x13.Delay x13.Shift)))).set (i9).toNat ((S_LatchLink.mk x25.From (IntKind.wrap IntKind.i64 (i8 + 1)) x25.Delay x25.Shift)))).set (i9).toNat ((S_LatchLink.mk x37.From x37.To (IntKind.wrap IntKind.i64 ((IntKind.wrap IntKind.i64 (i8 + 1)) + 1)) x37.Shift)))) i9) fun x49 => (F_laws_markLatchLinkS_L1 k0 m (IntKind.wrap IntKind.i64 ((IntKind.wrap IntKind.i64 ((IntKind.wrap IntKind.i64 ((IntKind.wrap IntKind.i64 (i8 + 1)) + 1)) + 1)) + 1)) (IntKind.wrap IntKind.i64 (i9 + 1)) ((((((((l10.set (i9).toNat ((S_LatchLink.mk i8 x13.To x13.Delay x13.Shift)))).set (i9).toNat ((S_LatchLink.mk x25.From (IntKind.wrap IntKind.i64 (i8 + 1)) x25.Delay x25.Shift)))).set (i9).toNat ((S_LatchLink.mk x37.From x37.To (IntKind.wrap IntKind.i64 ((IntKind.wrap IntKind.i64 (i8 + 1)) + 1)) x37.Shift)))).set (i9).toNat ((S_LatchLink.mk x49.From x49.To x49.Delay (IntKind.wrap IntKind.i64 ((IntKind.wrap IntKind.i64 ((IntKind.wrap IntKind.i64 (i8 + 1)) + 1)) + 1))))))))))) else (k0 i8 i9 l10)) := rfl

def F_laws_markLatchLinkS (n : Nat) (a0_a : List S_LatchLink) (a1_k : Int) : Option (Int × (List S_LatchLink)) := (F_laws_markLatchLinkS_L1 (fun i8 i9 l10 => (some (i8, l10))) n a1_k 0 a0_a)
set_option maxHeartbeats 4000000 in
theorem W_laws_markLatchLinkS {n : Nat} {a0_a : List S_LatchLink} {a1_k : Int} {r : Int × (List S_LatchLink)} {w : World} {v1 : Value} {B3 : Nat} (hF : F_laws_markLatchLinkS n a0_a a1_k = some r) (ha2 : ownR C_LatchLink w B3 (Iv 0 0) 77 a0_a v1) :
    Calls Try.prog 84 [v1, .int .i64 a1_k].toArray w (Ret fun u w2 => u = .int .i64 r.1 ∧ ownR C_LatchLink w2 B3 (Iv 0 0) 77 r.2 v1 ∧ But (pO v1) w w2) := by
  refine calls_of Try.func84 rfl Try.ntmps84 ?_
  have he0 : But (pO v1) w w := But.refl _ w
  have hbd5 := ownR.blk ha2
  unfold F_laws_markLatchLinkS at hF
  refine WC.seq ?_
  refine WC.region ?_
  refine TL.yld rfl rfl (yld_assign rfl rfl) ?_
  refine TL.done ?_
  refine NX.seq ?_
  refine WC.seq ?_
  refine WC.seq ?_
  refine WC.region ?_
  refine TL.yld rfl rfl (yld_assign rfl rfl) ?_
  refine TL.done ?_
  refine NX.seq ?_
  refine WC.block ?_
  refine WC.loop (fun m12 a wl => ∃ (i8 : Int) (i9 : Int) (l10 : List S_LatchLink), Kn 41 [(0, v1), (1, .int .i64 i8), (5, .int .i64 i9)] a ∧ But (pO v1) w wl ∧ w.heap.size ≤ wl.heap.size ∧ ownR C_LatchLink wl (B3) (Iv 0 0) 77 l10 v1 ∧ F_laws_markLatchLinkS_L1 (fun i8 i9 l10 => (some (i8, l10))) m12 i8 i9 l10 = some r) n ?_ ?_
  · intro a hK; exact ⟨a1_k, 0, a0_a, hK.weaken ⟨rfl, rfl, rfl, trivial⟩, he0, Nat.le_refl _, ha2, hF⟩
  · rintro m12 a w6 ⟨i8, i9, l10, hK, he7, hz13, hs11, hF⟩
    revert hK; revert a; refine (?_ : WC _ _ _ _ _ _)
    cases m12 with
    | zero => rw [F_laws_markLatchLinkS_L1_z] at hF; cases hF
    | succ m12 =>
      rw [F_laws_markLatchLinkS_L1_s] at hF
      refine WC.seq ?_
      refine WC.seq ?_
      refine WC.region ?_
      refine TL.yld rfl rfl (yld_move rfl rfl) ?_
      refine TL.yld rfl rfl (yld_move rfl rfl) ?_
      refine TL.yld rfl rfl (yld_len_own (c := C_LatchLink) rfl Try.underlying36 rfl hs11) ?_
      refine TL.yld rfl rfl (yld_lss rfl rfl rfl) ?_
      refine TL.done ?_
      refine NX.seq ?_
      refine WC.cond rfl ?_ ?_
      · intro hc14
        replace hF := bif_t hc14 hF
        refine WC.skip' ?_
        refine NX.seq ?_
        refine WC.seq ?_
        refine WC.block ?_
        refine WC.seq ?_
        refine WC.region ?_
        refine TL.yld rfl rfl (yld_move rfl rfl) ?_
        refine TL.yld rfl rfl (yld_move rfl rfl) ?_
        refine TL.yld rfl rfl (yld_move rfl rfl) ?_
        obtain ⟨x15, hy16, hF⟩ := bsome hF
        refine TL.ye rfl rfl (ye_index_own (c := C_LatchLink) rfl Try.underlying36 cn_77 rfl rfl hs11 hy16) ?_
        rintro _ ⟨g17, us19, rfl, hg18, hr20, hcl21⟩
        have hr20r := hr20
        obtain rfl := C_LatchLink_open hr20
        refine TL.yld rfl rfl (yld_fieldAddr rfl fo_77_0 rfl) ?_
        refine TL.eff rfl rfl (eff_store_own (c := C_LatchLink) (us' := [.int .i64 i8, .int .i64 x15.To, .int .i64 x15.Delay, .int .i64 x15.Shift]) (y' := (S_LatchLink.mk i8 x15.To x15.Delay x15.Shift)) 0 _ rfl rfl rfl hs11 hg18 hy16 rfl cn_2 rfl hr20r hcl21 rfl rfl C_LatchLink_mk (fun k h => absurd h.2 (Nat.not_lt_zero k))) ?_
        rintro _ w22 ⟨hu23, hs24⟩
        have he25 : But (pO v1) w w22 := But.upd he7 hu23 (Or.inl hg18)
        have hz26 := (hu23).size
        refine TL.done ?_
        refine NX.seq ?_
        refine WC.seq ?_
        refine WC.region ?_
        refine TL.yld rfl rfl (yld_move rfl rfl) ?_
        refine TL.yld rfl rfl (yld_add rfl rfl rfl) ?_
        refine TL.yld rfl rfl (yld_assign rfl rfl) ?_
        refine TL.done ?_
        refine NX.seq ?_
        refine WC.seq ?_
        refine WC.region ?_
        refine TL.yld rfl rfl (yld_move rfl rfl) ?_
        refine TL.yld rfl rfl (yld_move rfl rfl) ?_
        refine TL.yld rfl rfl (yld_move rfl rfl) ?_
        obtain ⟨x27, hy28, hF⟩ := bsome hF
        refine TL.ye rfl rfl (ye_index_own (c := C_LatchLink) rfl Try.underlying36 cn_77 rfl rfl hs24 hy28) ?_
        rintro _ ⟨g29, us31, rfl, hg30, hr32, hcl33⟩
        have hr32r := hr32
        obtain rfl := C_LatchLink_open hr32
        refine TL.yld rfl rfl (yld_fieldAddr rfl fo_77_1 rfl) ?_
        refine TL.eff rfl rfl (eff_store_own (c := C_LatchLink) (us' := [.int .i64 x27.From, .int .i64 (IntKind.wrap IntKind.i64 (i8 + 1)), .int .i64 x27.Delay, .int .i64 x27.Shift]) (y' := (S_LatchLink.mk x27.From (IntKind.wrap IntKind.i64 (i8 + 1)) x27.Delay x27.Shift)) 1 _ rfl rfl rfl hs24 hg30 hy28 rfl cn_2 rfl hr32r hcl33 rfl rfl C_LatchLink_mk (fun k h => absurd h.2 (Nat.not_lt_zero k))) ?_
        rintro _ w34 ⟨hu35, hs36⟩
        have he37 : But (pO v1) w w34 := But.upd he25 hu35 (Or.inl hg30)
        have hz38 := (hu35).size
        refine TL.done ?_
        refine NX.seq ?_
        refine WC.seq ?_
        refine WC.region ?_
        refine TL.yld rfl rfl (yld_move rfl rfl) ?_
        refine TL.yld rfl rfl (yld_add rfl rfl rfl) ?_
        refine TL.yld rfl rfl (yld_assign rfl rfl) ?_
        refine TL.done ?_
        refine NX.seq ?_
        refine WC.seq ?_
        refine WC.region ?_
        refine TL.yld rfl rfl (yld_move rfl rfl) ?_
        refine TL.yld rfl rfl (yld_move rfl rfl) ?_
        refine TL.yld rfl rfl (yld_move rfl rfl) ?_
        obtain ⟨x39, hy40, hF⟩ := bsome hF
        refine TL.ye rfl rfl (ye_index_own (c := C_LatchLink) rfl Try.underlying36 cn_77 rfl rfl hs36 hy40) ?_
        rintro _ ⟨g41, us43, rfl, hg42, hr44, hcl45⟩
        have hr44r := hr44
        obtain rfl := C_LatchLink_open hr44
        refine TL.yld rfl rfl (yld_fieldAddr rfl fo_77_2 rfl) ?_
        refine TL.eff rfl rfl (eff_store_own (c := C_LatchLink) (us' := [.int .i64 x39.From, .int .i64 x39.To, .int .i64 (IntKind.wrap IntKind.i64 ((IntKind.wrap IntKind.i64 (i8 + 1)) + 1)), .int .i64 x39.Shift]) (y' := (S_LatchLink.mk x39.From x39.To (IntKind.wrap IntKind.i64 ((IntKind.wrap IntKind.i64 (i8 + 1)) + 1)) x39.Shift)) 2 _ rfl rfl rfl hs36 hg42 hy40 rfl cn_2 rfl hr44r hcl45 rfl rfl C_LatchLink_mk (fun k h => absurd h.2 (Nat.not_lt_zero k))) ?_
        rintro _ w46 ⟨hu47, hs48⟩
        have he49 : But (pO v1) w w46 := But.upd he37 hu47 (Or.inl hg42)
        have hz50 := (hu47).size
        refine TL.done ?_
        refine NX.seq ?_
        refine WC.seq ?_
        refine WC.region ?_
        refine TL.yld rfl rfl (yld_move rfl rfl) ?_
        refine TL.yld rfl rfl (yld_add rfl rfl rfl) ?_
        refine TL.yld rfl rfl (yld_assign rfl rfl) ?_
        refine TL.done ?_
        refine NX.seq ?_
        refine WC.seq ?_
        refine WC.region ?_
        refine TL.yld rfl rfl (yld_move rfl rfl) ?_
        refine TL.yld rfl rfl (yld_move rfl rfl) ?_
        refine TL.yld rfl rfl (yld_move rfl rfl) ?_
        obtain ⟨x51, hy52, hF⟩ := bsome hF
        refine TL.ye rfl rfl (ye_index_own (c := C_LatchLink) rfl Try.underlying36 cn_77 rfl rfl hs48 hy52) ?_
        rintro _ ⟨g53, us55, rfl, hg54, hr56, hcl57⟩
        have hr56r := hr56
        obtain rfl := C_LatchLink_open hr56
        refine TL.yld rfl rfl (yld_fieldAddr rfl fo_77_3 rfl) ?_
        refine TL.eff rfl rfl (eff_store_own (c := C_LatchLink) (us' := [.int .i64 x51.From, .int .i64 x51.To, .int .i64 x51.Delay, .int .i64 (IntKind.wrap IntKind.i64 ((IntKind.wrap IntKind.i64 ((IntKind.wrap IntKind.i64 (i8 + 1)) + 1)) + 1))]) (y' := (S_LatchLink.mk x51.From x51.To x51.Delay (IntKind.wrap IntKind.i64 ((IntKind.wrap IntKind.i64 ((IntKind.wrap IntKind.i64 (i8 + 1)) + 1)) + 1)))) 3 _ rfl rfl rfl hs48 hg54 hy52 rfl cn_2 rfl hr56r hcl57 rfl rfl C_LatchLink_mk (fun k h => absurd h.2 (Nat.not_lt_zero k))) ?_
        rintro _ w58 ⟨hu59, hs60⟩
        have he61 : But (pO v1) w w58 := But.upd he49 hu59 (Or.inl hg54)
        have hz62 := (hu59).size
        refine TL.done ?_
        refine NX.seq ?_
        refine WC.region ?_
        refine TL.yld rfl rfl (yld_move rfl rfl) ?_
        refine TL.yld rfl rfl (yld_add rfl rfl rfl) ?_
        refine TL.yld rfl rfl (yld_assign rfl rfl) ?_
        refine TL.done ?_
        refine NX.blk_n ?_
        refine NX.seq ?_
        refine WC.region ?_
        refine TL.yld rfl rfl (yld_move rfl rfl) ?_
        refine TL.yld rfl rfl (yld_add rfl rfl rfl) ?_
        refine TL.yld rfl rfl (yld_assign rfl rfl) ?_
        refine TL.done ?_
        refine NX.then_n ?_
        intro a hK; exact ⟨m12, Nat.lt_succ_self m12, (IntKind.wrap IntKind.i64 ((IntKind.wrap IntKind.i64 ((IntKind.wrap IntKind.i64 ((IntKind.wrap IntKind.i64 (i8 + 1)) + 1)) + 1)) + 1)), (IntKind.wrap IntKind.i64 (i9 + 1)), ((((((((l10.set (i9).toNat ((S_LatchLink.mk i8 x15.To x15.Delay x15.Shift)))).set (i9).toNat ((S_LatchLink.mk x27.From (IntKind.wrap IntKind.i64 (i8 + 1)) x27.Delay x27.Shift)))).set (i9).toNat ((S_LatchLink.mk x39.From x39.To (IntKind.wrap IntKind.i64 ((IntKind.wrap IntKind.i64 (i8 + 1)) + 1)) x39.Shift)))).set (i9).toNat ((S_LatchLink.mk x51.From x51.To x51.Delay (IntKind.wrap IntKind.i64 ((IntKind.wrap IntKind.i64 ((IntKind.wrap IntKind.i64 (i8 + 1)) + 1)) + 1)))))), hK.weaken ⟨rfl, rfl, rfl, trivial⟩, he61, (by omega), hs60, hF⟩
      · intro hc63
        replace hF := bif_f hc63 hF
        refine WC.exit' ?_
        refine NX.then_e ?_
        refine NX.then_e ?_
        refine NX.blk_hit ?_
        refine NX.seq ?_
        refine WC.seq ?_
        refine WC.region ?_
        refine TL.yld rfl rfl (yld_move rfl rfl) ?_
        refine TL.yld rfl rfl (yld_assign rfl rfl) ?_
        refine TL.done ?_
        refine NX.seq ?_
        refine WC.ret' ?_
        obtain rfl := Option.some.inj hF
        exact NX.end (rs := [.tmp 4]) (vs := [.int .i64 i8]) rfl ⟨rfl, trivial⟩ ⟨_, rfl, rfl, hs11, he7⟩

-- loop.example/g00861/laws.markLatchSystem
def F_laws_markLatchSystem (n : Nat) (a0_a : S_LatchSystem) (a1_k : Int) : Option (Int × (List S_Latch) × (List S_LatchLink)) := (Option.bind (F_laws_markLatchS n a0_a.Latches a1_k) fun r19 => (Option.bind (F_laws_markLatchLinkS n a0_a.Links r19.1) fun r27 => (some (r27.1, r19.2, r27.2))))
set_option maxHeartbeats 4000000 in
theorem W_laws_markLatchSystem {n : Nat} {a0_a : S_LatchSystem} {a1_k : Int} {r : Int × (List S_Latch) × (List S_LatchLink)} {w : World} {v1 : Value} {B3 : Nat} {v6 : Value} {B8 : Nat} (hF : F_laws_markLatchSystem n a0_a a1_k = some r) (ha2 : ownR C_Latch w B3 (Iv 0 0) 50 a0_a.Latches v1) (ha7 : ownR C_LatchLink w B8 (Iv 0 0) 77 a0_a.Links v6) (hh11 : ∀ g q, v6.ownBlock = some g → v1.ownBlock = some q → g ≠ q) :
    Calls Try.prog 43 [.agg #[v1, v6], .int .i64 a1_k].toArray w (Ret fun u w2 => u = .int .i64 r.1 ∧ ownR C_Latch w2 B3 (Iv 0 0) 50 r.2.1 v1 ∧ ownR C_LatchLink w2 B8 (Iv 0 0) 77 r.2.2 v6 ∧ But (por (pO v1) (pO v6)) w w2) := by
  refine calls_of Try.func43 rfl Try.ntmps43 ?_
  have he0 : But (por (pO v1) (pO v6)) w w := But.refl _ w
  have hbd5 := ownR.blk ha2
  have hbd10 := ownR.blk ha7
  unfold F_laws_markLatchSystem at hF
  refine WC.seq ?_
  refine WC.region ?_
  refine TL.eff rfl rfl (eff_box rfl rfl) ?_
  rintro _ w13 ⟨b12, rfl, hn14⟩
  obtain ⟨hn14e, hn14s, hn14x, hb15⟩ := hn14
  have hb15 : Box w13 b12 [v1, v6] 38 := hb15
  have he17 : But (por (pO v1) (pO v6)) w w13 := But.ext he0 hn14x
  have ha2 := ownR.ext ha2 hn14x
  have ha7 := ownR.ext ha7 hn14x
  have hz18 := (hn14x).size
  have hlo16 : w.heap.size ≤ b12 := by rw [hn14e]; exact (he0).size
  refine TL.yld rfl rfl (yld_assign rfl rfl) ?_
  refine TL.done ?_
  refine NX.seq ?_
  refine WC.seq ?_
  refine WC.region ?_
  refine TL.yld rfl rfl (yld_fieldAddr rfl fo_38_0 rfl) ?_
  refine TL.yld rfl rfl (yld_load1 0 rfl ag_35 rfl (Box.cells hb15) rfl rfl) ?_
  refine TL.yld rfl rfl (yld_move rfl rfl) ?_
  obtain ⟨r19, hr20, hF⟩ := bsome hF
  refine TL.eff rfl rfl (eff_call rfl gf_83 rfl (W_laws_markLatchS hr20 ha2)) ?_
  rintro _ w21 ⟨rfl, hs23, hx22⟩
  have he24 : But (por (pO v1) (pO v6)) w w21 := But.but he17 hx22 (all_pO (fun g hg => (Or.inl (Or.inl hg))))
  have hb15 := Box.but hb15 hx22 (all_pO (fun g hg => by have := hbd5 g hg; omega))
  have hp25 : ∀ g q, v1.ownBlock = some g → v6.ownBlock = some q → g ≠ q := (fun g q hg hq e => hh11 q g hq hg e.symm)
  have ha7 := ownR.butF ha7 hx22 (all_pO (fun g hg q hq => hp25 g q hg hq))
  have hz26 := (hx22).size
  refine TL.yld rfl rfl (yld_assign rfl rfl) ?_
  refine TL.done ?_
  refine NX.seq ?_
  refine WC.seq ?_
  refine WC.region ?_
  refine TL.yld rfl rfl (yld_fieldAddr rfl fo_38_1 rfl) ?_
  refine TL.yld rfl rfl (yld_load1 1 rfl ag_36 rfl (Box.cells hb15) rfl rfl) ?_
  refine TL.yld rfl rfl (yld_move rfl rfl) ?_
  obtain ⟨r27, hr28, hF⟩ := bsome hF
  refine TL.eff rfl rfl (eff_call rfl gf_84 rfl (W_laws_markLatchLinkS hr28 ha7)) ?_
  rintro _ w29 ⟨rfl, hs31, hx30⟩
  have he32 : But (por (pO v1) (pO v6)) w w29 := But.but he24 hx30 (all_pO (fun g hg => (Or.inl (Or.inr hg))))
  have hb15 := Box.but hb15 hx30 (all_pO (fun g hg => by have := hbd10 g hg; omega))
  have hp33 : ∀ g q, v6.ownBlock = some g → v1.ownBlock = some q → g ≠ q := hh11
  have hs23 := ownR.butF hs23 hx30 (all_pO (fun g hg q hq => hp33 g q hg hq))
  have hz34 := (hx30).size
  refine TL.yld rfl rfl (yld_assign rfl rfl) ?_
  refine TL.done ?_
  refine NX.seq ?_
  refine WC.seq ?_
  refine WC.region ?_
  refine TL.yld rfl rfl (yld_move rfl rfl) ?_
  refine TL.yld rfl rfl (yld_assign rfl rfl) ?_
  refine TL.done ?_
  refine NX.seq ?_
  refine WC.ret' ?_
  obtain rfl := Option.some.inj hF
  exact NX.end (rs := [.tmp 4]) (vs := [.int .i64 r27.1]) rfl ⟨rfl, trivial⟩ ⟨_, rfl, rfl, hs23, hs31, he32⟩

-- loop.example/g00861/laws.heldLatchS
def F_laws_heldLatchS_L1 (a0_a : List S_Latch) (k0 : Int → Int → Option Int) : Nat → Int → Int → Option Int
  | 0 => fun _ _ => none
  | m + 1 => fun i5 i6 => (bif decide (i6 < (a0_a.length : Int)) then (Option.bind (getI a0_a i6) fun x8 => (bif (x8.Open != i5) then (some (-1)) else (Option.bind (getI a0_a i6) fun x18 => (bif (x18.Close != (IntKind.wrap IntKind.i64 (i5 + 1))) then (some (-1)) else (F_laws_heldLatchS_L1 a0_a k0 m (IntKind.wrap IntKind.i64 ((IntKind.wrap IntKind.i64 (i5 + 1)) + 1)) (IntKind.wrap IntKind.i64 (i6 + 1))))))) else (k0 i5 i6))
theorem F_laws_heldLatchS_L1_z (a0_a : List S_Latch) (k0 : Int → Int → Option Int) (i5 : Int) (i6 : Int) : F_laws_heldLatchS_L1 a0_a k0 0 i5 i6 = none := rfl
theorem F_laws_heldLatchS_L1_s (m : Nat) (a0_a : List S_Latch) (k0 : Int → Int → Option Int) (i5 : Int) (i6 : Int) : F_laws_heldLatchS_L1 a0_a k0 (m + 1) i5 i6 = (bif decide (i6 < (a0_a.length : Int)) then (Option.bind (getI a0_a i6) fun x8 => (bif (x8.Open != i5) then (some (-1)) else (Option.bind (getI a0_a i6) fun x18 => (bif (x18.Close != (IntKind.wrap IntKind.i64 (i5 + 1))) then (some (-1)) else (F_laws_heldLatchS_L1 a0_a k0 m (IntKind.wrap IntKind.i64 ((IntKind.wrap IntKind.i64 (i5 + 1)) + 1)) (IntKind.wrap IntKind.i64 (i6 + 1))))))) else (k0 i5 i6)) := rfl

def F_laws_heldLatchS (n : Nat) (a0_a : List S_Latch) (a1_k : Int) : Option Int := (F_laws_heldLatchS_L1 a0_a (fun i5 i6 => (some i5)) n a1_k 0)
set_option maxHeartbeats 4000000 in
theorem W_laws_heldLatchS {n : Nat} {a0_a : List S_Latch} {a1_k : Int} {r : Int} {w : World} {v1 : Value} (hF : F_laws_heldLatchS n a0_a a1_k = some r) (ha2 : slRep C_Latch w (Iv 0 w.heap.size) a0_a v1) :
    Calls Try.prog 85 [v1, .int .i64 a1_k].toArray w (Ret fun u w2 => u = .int .i64 r ∧ Ext w w2) := by
  refine calls_of Try.func85 rfl Try.ntmps85 ?_
  have he0 : Ext w w := Ext.refl w
  unfold F_laws_heldLatchS at hF
  refine WC.seq ?_
  refine WC.region ?_
  refine TL.yld rfl rfl (yld_assign rfl rfl) ?_
  refine TL.done ?_
  refine NX.seq ?_
  refine WC.seq ?_
  refine WC.seq ?_
  refine WC.region ?_
  refine TL.yld rfl rfl (yld_assign rfl rfl) ?_
  refine TL.done ?_
  refine NX.seq ?_
  refine WC.block ?_
  refine WC.loop (fun m7 a wl => ∃ (i5 : Int) (i6 : Int), Kn 31 [(0, v1), (1, .int .i64 i5), (5, .int .i64 i6)] a ∧ Ext w wl ∧ w.heap.size ≤ wl.heap.size ∧ F_laws_heldLatchS_L1 a0_a (fun i5 i6 => (some i5)) m7 i5 i6 = some r) n ?_ ?_
  · intro a hK; exact ⟨a1_k, 0, hK.weaken ⟨rfl, rfl, rfl, trivial⟩, he0, Nat.le_refl _, hF⟩
  · rintro m7 a w3 ⟨i5, i6, hK, he4, hz8, hF⟩
    revert hK; revert a; refine (?_ : WC _ _ _ _ _ _)
    cases m7 with
    | zero => rw [F_laws_heldLatchS_L1_z] at hF; cases hF
    | succ m7 =>
      rw [F_laws_heldLatchS_L1_s] at hF
      refine WC.seq ?_
      refine WC.seq ?_
      refine WC.region ?_
      refine TL.yld rfl rfl (yld_move rfl rfl) ?_
      refine TL.yld rfl rfl (yld_move rfl rfl) ?_
      refine TL.yld rfl rfl (ye_len (c := C_Latch) rfl Try.underlying35 rfl (slRep.old ha2 he4 (Nat.le_refl _))) ?_
      refine TL.yld rfl rfl (yld_lss rfl rfl rfl) ?_
      refine TL.done ?_
      refine NX.seq ?_
      refine WC.cond rfl ?_ ?_
      · intro hc9
        replace hF := bif_t hc9 hF
        refine WC.skip' ?_
        refine NX.seq ?_
        refine WC.seq ?_
        refine WC.block ?_
        refine WC.seq ?_
        refine WC.seq ?_
        refine WC.region ?_
        refine TL.yld rfl rfl (yld_move rfl rfl) ?_
        refine TL.yld rfl rfl (yld_move rfl rfl) ?_
        obtain ⟨x10, hy11, hF⟩ := bsome hF
        refine TL.ye rfl rfl (ye_index (c := C_Latch) rfl Try.underlying35 cn_50 rfl rfl (slRep.old ha2 he4 (Nat.le_refl _)) hy11) ?_
        rintro _ ⟨b12, o13, us14, rfl, hib17, hr15, hcl16⟩
        have hib17 : 0 ≤ b12 ∧ b12 < w.heap.size := ⟨hib17.1, by have := hib17.2; omega⟩
        obtain rfl := C_Latch_open hr15
        refine TL.yld rfl rfl (yld_fieldAddr rfl fo_50_0 rfl) ?_
        refine TL.yld rfl rfl (yld_load1 0 rfl ag_2 rfl hcl16 rfl rfl) ?_
        refine TL.yld rfl rfl (yld_move rfl rfl) ?_
        refine TL.yld rfl rfl (yld_neq rfl rfl rfl) ?_
        refine TL.done ?_
        refine NX.seq ?_
        refine WC.cond rfl ?_ ?_
        · intro hc18
          replace hF := bif_t hc18 hF
          refine WC.seq ?_
          refine WC.region ?_
          refine TL.yld rfl rfl (yld_assign rfl rfl) ?_
          refine TL.done ?_
          refine NX.seq ?_
          refine WC.ret' ?_
          refine NX.then_r ?_
          refine NX.blk_r ?_
          refine NX.then_r ?_
          refine NX.then_r ?_
          refine NX.blk_r ?_
          refine NX.then_r ?_
          obtain rfl := Option.some.inj hF
          exact NX.end (rs := [.tmp 4]) (vs := [.int .i64 (-1)]) rfl ⟨rfl, trivial⟩ ⟨_, rfl, rfl, he4⟩
        · intro hc19
          replace hF := bif_f hc19 hF
          refine WC.skip' ?_
          refine NX.seq ?_
          refine WC.seq ?_
          refine WC.region ?_
          refine TL.yld rfl rfl (yld_move rfl rfl) ?_
          refine TL.yld rfl rfl (yld_add rfl rfl rfl) ?_
          refine TL.yld rfl rfl (yld_assign rfl rfl) ?_
          refine TL.done ?_
          refine NX.seq ?_
          refine WC.seq ?_
          refine WC.seq ?_
          refine WC.region ?_
          refine TL.yld rfl rfl (yld_move rfl rfl) ?_
          refine TL.yld rfl rfl (yld_move rfl rfl) ?_
          obtain ⟨x20, hy21, hF⟩ := bsome hF
          refine TL.ye rfl rfl (ye_index (c := C_Latch) rfl Try.underlying35 cn_50 rfl rfl (slRep.old ha2 he4 (Nat.le_refl _)) hy21) ?_
          rintro _ ⟨b22, o23, us24, rfl, hib27, hr25, hcl26⟩
          have hib27 : 0 ≤ b22 ∧ b22 < w.heap.size := ⟨hib27.1, by have := hib27.2; omega⟩
          obtain rfl := C_Latch_open hr25
          refine TL.yld rfl rfl (yld_fieldAddr rfl fo_50_1 rfl) ?_
          refine TL.yld rfl rfl (yld_load1 1 rfl ag_2 rfl hcl26 rfl rfl) ?_
          refine TL.yld rfl rfl (yld_move rfl rfl) ?_
          refine TL.yld rfl rfl (yld_neq rfl rfl rfl) ?_
          refine TL.done ?_
          refine NX.seq ?_
          refine WC.cond rfl ?_ ?_
          · intro hc28
            replace hF := bif_t hc28 hF
            refine WC.seq ?_
            refine WC.region ?_
            refine TL.yld rfl rfl (yld_assign rfl rfl) ?_
            refine TL.done ?_
            refine NX.seq ?_
            refine WC.ret' ?_
            refine NX.then_r ?_
            refine NX.blk_r ?_
            refine NX.then_r ?_
            refine NX.then_r ?_
            refine NX.blk_r ?_
            refine NX.then_r ?_
            obtain rfl := Option.some.inj hF
            exact NX.end (rs := [.tmp 4]) (vs := [.int .i64 (-1)]) rfl ⟨rfl, trivial⟩ ⟨_, rfl, rfl, he4⟩
          · intro hc29
            replace hF := bif_f hc29 hF
            refine WC.skip' ?_
            refine NX.seq ?_
            refine WC.region ?_
            refine TL.yld rfl rfl (yld_move rfl rfl) ?_
            refine TL.yld rfl rfl (yld_add rfl rfl rfl) ?_
            refine TL.yld rfl rfl (yld_assign rfl rfl) ?_
            refine TL.done ?_
            refine NX.blk_n ?_
            refine NX.seq ?_
            refine WC.region ?_
            refine TL.yld rfl rfl (yld_move rfl rfl) ?_
            refine TL.yld rfl rfl (yld_add rfl rfl rfl) ?_
            refine TL.yld rfl rfl (yld_assign rfl rfl) ?_
            refine TL.done ?_
            refine NX.then_n ?_
            intro a hK; exact ⟨m7, Nat.lt_succ_self m7, (IntKind.wrap IntKind.i64 ((IntKind.wrap IntKind.i64 (i5 + 1)) + 1)), (IntKind.wrap IntKind.i64 (i6 + 1)), hK.weaken ⟨rfl, rfl, rfl, trivial⟩, he4, (by omega), hF⟩
      · intro hc30
        replace hF := bif_f hc30 hF
        refine WC.exit' ?_
        refine NX.then_e ?_
        refine NX.then_e ?_
        refine NX.blk_hit ?_
        refine NX.seq ?_
        refine WC.seq ?_
        refine WC.region ?_
        refine TL.yld rfl rfl (yld_move rfl rfl) ?_
        refine TL.yld rfl rfl (yld_assign rfl rfl) ?_
        refine TL.done ?_
        refine NX.seq ?_
        refine WC.ret' ?_
        obtain rfl := Option.some.inj hF
        exact NX.end (rs := [.tmp 4]) (vs := [.int .i64 i5]) rfl ⟨rfl, trivial⟩ ⟨_, rfl, rfl, he4⟩

-- loop.example/g00861/laws.heldLatchLinkS
def F_laws_heldLatchLinkS_L1 (a0_a : List S_LatchLink) (k0 : Int → Int → Option Int) : Nat → Int → Int → Option Int
  | 0 => fun _ _ => none
  | m + 1 => fun i5 i6 => (bif decide (i6 < (a0_a.length : Int)) then (Option.bind (getI a0_a i6) fun x8 => (bif (x8.From != i5) then (some (-1)) else (Option.bind (getI a0_a i6) fun x18 => (bif (x18.To != (IntKind.wrap IntKind.i64 (i5 + 1))) then (some (-1)) else (Option.bind (getI a0_a i6) fun x28 => (bif (x28.Delay != (IntKind.wrap IntKind.i64 ((IntKind.wrap IntKind.i64 (i5 + 1)) + 1))) then (some (-1)) else (Option.bind (getI a0_a i6) fun x38 => (bif (x38.Shift != (IntKind.wrap IntKind.i64 ((IntKind.wrap IntKind.i64 ((IntKind.wrap IntKind.i64 (i5 + 1)) + 1)) + 1))) then (some (-1)) else (F_laws_heldLatchLinkS_L1 a0_a k0 m (IntKind.wrap IntKind.i64 ((IntKind.wrap IntKind.i64 ((IntKind.wrap IntKind.i64 ((IntKind.wrap IntKind.i64 (i5 + 1)) + 1)) + 1)) + 1)) (IntKind.wrap IntKind.i64 (i6 + 1))))))))))) else (k0 i5 i6))
theorem F_laws_heldLatchLinkS_L1_z (a0_a : List S_LatchLink) (k0 : Int → Int → Option Int) (i5 : Int) (i6 : Int) : F_laws_heldLatchLinkS_L1 a0_a k0 0 i5 i6 = none := rfl
theorem F_laws_heldLatchLinkS_L1_s (m : Nat) (a0_a : List S_LatchLink) (k0 : Int → Int → Option Int) (i5 : Int) (i6 : Int) : F_laws_heldLatchLinkS_L1 a0_a k0 (m + 1) i5 i6 = (bif decide (i6 < (a0_a.length : Int)) then (Option.bind (getI a0_a i6) fun x8 => (bif (x8.From != i5) then (some (-1)) else (Option.bind (getI a0_a i6) fun x18 => (bif (x18.To != (IntKind.wrap IntKind.i64 (i5 + 1))) then (some (-1)) else (Option.bind (getI a0_a i6) fun x28 => (bif (x28.Delay != (IntKind.wrap IntKind.i64 ((IntKind.wrap IntKind.i64 (i5 + 1)) + 1))) then (some (-1)) else (Option.bind (getI a0_a i6) fun x38 => (bif (x38.Shift != (IntKind.wrap IntKind.i64 ((IntKind.wrap IntKind.i64 ((IntKind.wrap IntKind.i64 (i5 + 1)) + 1)) + 1))) then (some (-1)) else (F_laws_heldLatchLinkS_L1 a0_a k0 m (IntKind.wrap IntKind.i64 ((IntKind.wrap IntKind.i64 ((IntKind.wrap IntKind.i64 ((IntKind.wrap IntKind.i64 (i5 + 1)) + 1)) + 1)) + 1)) (IntKind.wrap IntKind.i64 (i6 + 1))))))))))) else (k0 i5 i6)) := rfl

def F_laws_heldLatchLinkS (n : Nat) (a0_a : List S_LatchLink) (a1_k : Int) : Option Int := (F_laws_heldLatchLinkS_L1 a0_a (fun i5 i6 => (some i5)) n a1_k 0)
set_option maxHeartbeats 4000000 in
theorem W_laws_heldLatchLinkS {n : Nat} {a0_a : List S_LatchLink} {a1_k : Int} {r : Int} {w : World} {v1 : Value} (hF : F_laws_heldLatchLinkS n a0_a a1_k = some r) (ha2 : slRep C_LatchLink w (Iv 0 w.heap.size) a0_a v1) :
    Calls Try.prog 86 [v1, .int .i64 a1_k].toArray w (Ret fun u w2 => u = .int .i64 r ∧ Ext w w2) := by
  refine calls_of Try.func86 rfl Try.ntmps86 ?_
  have he0 : Ext w w := Ext.refl w
  unfold F_laws_heldLatchLinkS at hF
  refine WC.seq ?_
  refine WC.region ?_
  refine TL.yld rfl rfl (yld_assign rfl rfl) ?_
  refine TL.done ?_
  refine NX.seq ?_
  refine WC.seq ?_
  refine WC.seq ?_
  refine WC.region ?_
  refine TL.yld rfl rfl (yld_assign rfl rfl) ?_
  refine TL.done ?_
  refine NX.seq ?_
  refine WC.block ?_
  refine WC.loop (fun m7 a wl => ∃ (i5 : Int) (i6 : Int), Kn 49 [(0, v1), (1, .int .i64 i5), (5, .int .i64 i6)] a ∧ Ext w wl ∧ w.heap.size ≤ wl.heap.size ∧ F_laws_heldLatchLinkS_L1 a0_a (fun i5 i6 => (some i5)) m7 i5 i6 = some r) n ?_ ?_
  · intro a hK; exact ⟨a1_k, 0, hK.weaken ⟨rfl, rfl, rfl, trivial⟩, he0, Nat.le_refl _, hF⟩
  · rintro m7 a w3 ⟨i5, i6, hK, he4, hz8, hF⟩
    revert hK; revert a; refine (?_ : WC _ _ _ _ _ _)
    cases m7 with
    | zero => rw [F_laws_heldLatchLinkS_L1_z] at hF; cases hF
    | succ m7 =>
      rw [F_laws_heldLatchLinkS_L1_s] at hF
      refine WC.seq ?_
      refine WC.seq ?_
      refine WC.region ?_
      refine TL.yld rfl rfl (yld_move rfl rfl) ?_
      refine TL.yld rfl rfl (yld_move rfl rfl) ?_
      refine TL.yld rfl rfl (ye_len (c := C_LatchLink) rfl Try.underlying36 rfl (slRep.old ha2 he4 (Nat.le_refl _))) ?_
      refine TL.yld rfl rfl (yld_lss rfl rfl rfl) ?_
      refine TL.done ?_
      refine NX.seq ?_
      refine WC.cond rfl ?_ ?_
      · intro hc9
        replace hF := bif_t hc9 hF
        refine WC.skip' ?_
        refine NX.seq ?_
        refine WC.seq ?_
        refine WC.block ?_
        refine WC.seq ?_
        refine WC.seq ?_
        refine WC.region ?_
        refine TL.yld rfl rfl (yld_move rfl rfl) ?_
        refine TL.yld rfl rfl (yld_move rfl rfl) ?_
        obtain ⟨x10, hy11, hF⟩ := bsome hF
        refine TL.ye rfl rfl (ye_index (c := C_LatchLink) rfl Try.underlying36 cn_77 rfl rfl (slRep.old ha2 he4 (Nat.le_refl _)) hy11) ?_
        rintro _ ⟨b12, o13, us14, rfl, hib17, hr15, hcl16⟩
        have hib17 : 0 ≤ b12 ∧ b12 < w.heap.size := ⟨hib17.1, by have := hib17.2; omega⟩
        obtain rfl := C_LatchLink_open hr15
        refine TL.yld rfl rfl (yld_fieldAddr rfl fo_77_0 rfl) ?_
        refine TL.yld rfl rfl (yld_load1 0 rfl ag_2 rfl hcl16 rfl rfl) ?_
        refine TL.yld rfl rfl (yld_move rfl rfl) ?_
        refine TL.yld rfl rfl (yld_neq rfl rfl rfl) ?_
        refine TL.done ?_
        refine NX.seq ?_
        refine WC.cond rfl ?_ ?_
        · intro hc18
          replace hF := bif_t hc18 hF
          refine WC.seq ?_
          refine WC.region ?_
          refine TL.yld rfl rfl (yld_assign rfl rfl) ?_
          refine TL.done ?_
          refine NX.seq ?_
          refine WC.ret' ?_
          refine NX.then_r ?_
          refine NX.blk_r ?_
          refine NX.then_r ?_
          refine NX.then_r ?_
          refine NX.blk_r ?_
          refine NX.then_r ?_
          obtain rfl := Option.some.inj hF
          exact NX.end (rs := [.tmp 4]) (vs := [.int .i64 (-1)]) rfl ⟨rfl, trivial⟩ ⟨_, rfl, rfl, he4⟩
        · intro hc19
          replace hF := bif_f hc19 hF
          refine WC.skip' ?_
          refine NX.seq ?_
          refine WC.seq ?_
          refine WC.region ?_
          refine TL.yld rfl rfl (yld_move rfl rfl) ?_
          refine TL.yld rfl rfl (yld_add rfl rfl rfl) ?_
          refine TL.yld rfl rfl (yld_assign rfl rfl) ?_
          refine TL.done ?_
          refine NX.seq ?_
          refine WC.seq ?_
          refine WC.seq ?_
          refine WC.region ?_
          refine TL.yld rfl rfl (yld_move rfl rfl) ?_
          refine TL.yld rfl rfl (yld_move rfl rfl) ?_
          obtain ⟨x20, hy21, hF⟩ := bsome hF
          refine TL.ye rfl rfl (ye_index (c := C_LatchLink) rfl Try.underlying36 cn_77 rfl rfl (slRep.old ha2 he4 (Nat.le_refl _)) hy21) ?_
          rintro _ ⟨b22, o23, us24, rfl, hib27, hr25, hcl26⟩
          have hib27 : 0 ≤ b22 ∧ b22 < w.heap.size := ⟨hib27.1, by have := hib27.2; omega⟩
          obtain rfl := C_LatchLink_open hr25
          refine TL.yld rfl rfl (yld_fieldAddr rfl fo_77_1 rfl) ?_
          refine TL.yld rfl rfl (yld_load1 1 rfl ag_2 rfl hcl26 rfl rfl) ?_
          refine TL.yld rfl rfl (yld_move rfl rfl) ?_
          refine TL.yld rfl rfl (yld_neq rfl rfl rfl) ?_
          refine TL.done ?_
          refine NX.seq ?_
          refine WC.cond rfl ?_ ?_
          · intro hc28
            replace hF := bif_t hc28 hF
            refine WC.seq ?_
            refine WC.region ?_
            refine TL.yld rfl rfl (yld_assign rfl rfl) ?_
            refine TL.done ?_
            refine NX.seq ?_
            refine WC.ret' ?_
            refine NX.then_r ?_
            refine NX.blk_r ?_
            refine NX.then_r ?_
            refine NX.then_r ?_
            refine NX.blk_r ?_
            refine NX.then_r ?_
            obtain rfl := Option.some.inj hF
            exact NX.end (rs := [.tmp 4]) (vs := [.int .i64 (-1)]) rfl ⟨rfl, trivial⟩ ⟨_, rfl, rfl, he4⟩
          · intro hc29
            replace hF := bif_f hc29 hF
            refine WC.skip' ?_
            refine NX.seq ?_
            refine WC.seq ?_
            refine WC.region ?_
            refine TL.yld rfl rfl (yld_move rfl rfl) ?_
            refine TL.yld rfl rfl (yld_add rfl rfl rfl) ?_
            refine TL.yld rfl rfl (yld_assign rfl rfl) ?_
            refine TL.done ?_
            refine NX.seq ?_
            refine WC.seq ?_
            refine WC.seq ?_
            refine WC.region ?_
            refine TL.yld rfl rfl (yld_move rfl rfl) ?_
            refine TL.yld rfl rfl (yld_move rfl rfl) ?_
            obtain ⟨x30, hy31, hF⟩ := bsome hF
            refine TL.ye rfl rfl (ye_index (c := C_LatchLink) rfl Try.underlying36 cn_77 rfl rfl (slRep.old ha2 he4 (Nat.le_refl _)) hy31) ?_
            rintro _ ⟨b32, o33, us34, rfl, hib37, hr35, hcl36⟩
            have hib37 : 0 ≤ b32 ∧ b32 < w.heap.size := ⟨hib37.1, by have := hib37.2; omega⟩
            obtain rfl := C_LatchLink_open hr35
            refine TL.yld rfl rfl (yld_fieldAddr rfl fo_77_2 rfl) ?_
            refine TL.yld rfl rfl (yld_load1 2 rfl ag_2 rfl hcl36 rfl rfl) ?_
            refine TL.yld rfl rfl (yld_move rfl rfl) ?_
            refine TL.yld rfl rfl (yld_neq rfl rfl rfl) ?_
            refine TL.done ?_
            refine NX.seq ?_
            refine WC.cond rfl ?_ ?_
            · intro hc38
              replace hF := bif_t hc38 hF
              refine WC.seq ?_
              refine WC.region ?_
              refine TL.yld rfl rfl (yld_assign rfl rfl) ?_
              refine TL.done ?_
              refine NX.seq ?_
              refine WC.ret' ?_
              refine NX.then_r ?_
              refine NX.blk_r ?_
              refine NX.then_r ?_
              refine NX.then_r ?_
              refine NX.blk_r ?_
              refine NX.then_r ?_
              obtain rfl := Option.some.inj hF
              exact NX.end (rs := [.tmp 4]) (vs := [.int .i64 (-1)]) rfl ⟨rfl, trivial⟩ ⟨_, rfl, rfl, he4⟩
            · intro hc39
              replace hF := bif_f hc39 hF
              refine WC.skip' ?_
              refine NX.seq ?_
              refine WC.seq ?_
              refine WC.region ?_
              refine TL.yld rfl rfl (yld_move rfl rfl) ?_
              refine TL.yld rfl rfl (yld_add rfl rfl rfl) ?_
              refine TL.yld rfl rfl (yld_assign rfl rfl) ?_
              refine TL.done ?_
              refine NX.seq ?_
              refine WC.seq ?_
              refine WC.seq ?_
              refine WC.region ?_
              refine TL.yld rfl rfl (yld_move rfl rfl) ?_
              refine TL.yld rfl rfl (yld_move rfl rfl) ?_
              obtain ⟨x40, hy41, hF⟩ := bsome hF
              refine TL.ye rfl rfl (ye_index (c := C_LatchLink) rfl Try.underlying36 cn_77 rfl rfl (slRep.old ha2 he4 (Nat.le_refl _)) hy41) ?_
              rintro _ ⟨b42, o43, us44, rfl, hib47, hr45, hcl46⟩
              have hib47 : 0 ≤ b42 ∧ b42 < w.heap.size := ⟨hib47.1, by have := hib47.2; omega⟩
              obtain rfl := C_LatchLink_open hr45
              refine TL.yld rfl rfl (yld_fieldAddr rfl fo_77_3 rfl) ?_
              refine TL.yld rfl rfl (yld_load1 3 rfl ag_2 rfl hcl46 rfl rfl) ?_
              refine TL.yld rfl rfl (yld_move rfl rfl) ?_
              refine TL.yld rfl rfl (yld_neq rfl rfl rfl) ?_
              refine TL.done ?_
              refine NX.seq ?_
              refine WC.cond rfl ?_ ?_
              · intro hc48
                replace hF := bif_t hc48 hF
                refine WC.seq ?_
                refine WC.region ?_
                refine TL.yld rfl rfl (yld_assign rfl rfl) ?_
                refine TL.done ?_
                refine NX.seq ?_
                refine WC.ret' ?_
                refine NX.then_r ?_
                refine NX.blk_r ?_
                refine NX.then_r ?_
                refine NX.then_r ?_
                refine NX.blk_r ?_
                refine NX.then_r ?_
                obtain rfl := Option.some.inj hF
                exact NX.end (rs := [.tmp 4]) (vs := [.int .i64 (-1)]) rfl ⟨rfl, trivial⟩ ⟨_, rfl, rfl, he4⟩
              · intro hc49
                replace hF := bif_f hc49 hF
                refine WC.skip' ?_
                refine NX.seq ?_
                refine WC.region ?_
                refine TL.yld rfl rfl (yld_move rfl rfl) ?_
                refine TL.yld rfl rfl (yld_add rfl rfl rfl) ?_
                refine TL.yld rfl rfl (yld_assign rfl rfl) ?_
                refine TL.done ?_
                refine NX.blk_n ?_
                refine NX.seq ?_
                refine WC.region ?_
                refine TL.yld rfl rfl (yld_move rfl rfl) ?_
                refine TL.yld rfl rfl (yld_add rfl rfl rfl) ?_
                refine TL.yld rfl rfl (yld_assign rfl rfl) ?_
                refine TL.done ?_
                refine NX.then_n ?_
                intro a hK; exact ⟨m7, Nat.lt_succ_self m7, (IntKind.wrap IntKind.i64 ((IntKind.wrap IntKind.i64 ((IntKind.wrap IntKind.i64 ((IntKind.wrap IntKind.i64 (i5 + 1)) + 1)) + 1)) + 1)), (IntKind.wrap IntKind.i64 (i6 + 1)), hK.weaken ⟨rfl, rfl, rfl, trivial⟩, he4, (by omega), hF⟩
      · intro hc50
        replace hF := bif_f hc50 hF
        refine WC.exit' ?_
        refine NX.then_e ?_
        refine NX.then_e ?_
        refine NX.blk_hit ?_
        refine NX.seq ?_
        refine WC.seq ?_
        refine WC.region ?_
        refine TL.yld rfl rfl (yld_move rfl rfl) ?_
        refine TL.yld rfl rfl (yld_assign rfl rfl) ?_
        refine TL.done ?_
        refine NX.seq ?_
        refine WC.ret' ?_
        obtain rfl := Option.some.inj hF
        exact NX.end (rs := [.tmp 4]) (vs := [.int .i64 i5]) rfl ⟨rfl, trivial⟩ ⟨_, rfl, rfl, he4⟩

-- loop.example/g00861/laws.heldLatchSystem
def F_laws_heldLatchSystem (n : Nat) (a0_a : S_LatchSystem) (a1_k : Int) : Option Int := (Option.bind (F_laws_heldLatchS n a0_a.Latches a1_k) fun r12 => (bif decide (r12 < 0) then (some (-1)) else (Option.bind (F_laws_heldLatchLinkS n a0_a.Links r12) fun r20 => (bif decide (r20 < 0) then (some (-1)) else (some r20)))))
set_option maxHeartbeats 4000000 in
theorem W_laws_heldLatchSystem {n : Nat} {a0_a : S_LatchSystem} {a1_k : Int} {r : Int} {w : World} {v1 : Value} {v3 : Value} (hF : F_laws_heldLatchSystem n a0_a a1_k = some r) (ha2 : slRep C_Latch w (Iv 0 w.heap.size) a0_a.Latches v1) (ha4 : slRep C_LatchLink w (Iv 0 w.heap.size) a0_a.Links v3) :
    Calls Try.prog 44 [.agg #[v1, v3], .int .i64 a1_k].toArray w (Ret fun u w2 => u = .int .i64 r ∧ Ext w w2) := by
  refine calls_of Try.func44 rfl Try.ntmps44 ?_
  have he0 : Ext w w := Ext.refl w
  unfold F_laws_heldLatchSystem at hF
  refine WC.seq ?_
  refine WC.region ?_
  refine TL.eff rfl rfl (eff_box rfl rfl) ?_
  rintro _ w6 ⟨b5, rfl, hn7⟩
  obtain ⟨hn7e, hn7s, hn7x, hb8⟩ := hn7
  have hb8 : Box w6 b5 [v1, v3] 38 := hb8
  have he10 : Ext w w6 := Ext.trans he0 hn7x
  have hz11 := (hn7x).size
  have hlo9 : w.heap.size ≤ b5 := by rw [hn7e]; exact (he0).size
  refine TL.yld rfl rfl (yld_assign rfl rfl) ?_
  refine TL.done ?_
  refine NX.seq ?_
  refine WC.seq ?_
  refine WC.region ?_
  refine TL.yld rfl rfl (yld_fieldAddr rfl fo_38_0 rfl) ?_
  refine TL.yld rfl rfl (yld_load1 0 rfl ag_35 rfl (Box.cells hb8) rfl rfl) ?_
  refine TL.yld rfl rfl (yld_move rfl rfl) ?_
  obtain ⟨r12, hr13, hF⟩ := bsome hF
  refine TL.eff rfl rfl (eff_call rfl gf_85 rfl (W_laws_heldLatchS hr13 ((slRep.old ha2 he10 (Nat.le_refl _)).wide (Nat.le_refl _) (he10).size))) ?_
  rintro _ w14 ⟨rfl, hx15⟩
  have he16 : Ext w w14 := Ext.trans he10 hx15
  have hb8 := Box.ext hb8 hx15
  have hz17 := (hx15).size
  refine TL.yld rfl rfl (yld_assign rfl rfl) ?_
  refine TL.done ?_
  refine NX.seq ?_
  refine WC.seq ?_
  refine WC.seq ?_
  refine WC.region ?_
  refine TL.yld rfl rfl (yld_move rfl rfl) ?_
  refine TL.yld rfl rfl (yld_lss rfl rfl rfl) ?_
  refine TL.done ?_
  refine NX.seq ?_
  refine WC.cond rfl ?_ ?_
  · intro hc18
    replace hF := bif_t hc18 hF
    refine WC.seq ?_
    refine WC.region ?_
    refine TL.yld rfl rfl (yld_assign rfl rfl) ?_
    refine TL.done ?_
    refine NX.seq ?_
    refine WC.ret' ?_
    refine NX.then_r ?_
    obtain rfl := Option.some.inj hF
    exact NX.end (rs := [.tmp 4]) (vs := [.int .i64 (-1)]) rfl ⟨rfl, trivial⟩ ⟨_, rfl, rfl, he16⟩
  · intro hc19
    replace hF := bif_f hc19 hF
    refine WC.skip' ?_
    refine NX.seq ?_
    refine WC.seq ?_
    refine WC.region ?_
    refine TL.yld rfl rfl (yld_fieldAddr rfl fo_38_1 rfl) ?_
    refine TL.yld rfl rfl (yld_load1 1 rfl ag_36 rfl (Box.cells hb8) rfl rfl) ?_
    refine TL.yld rfl rfl (yld_move rfl rfl) ?_
    obtain ⟨r20, hr21, hF⟩ := bsome hF
    refine TL.eff rfl rfl (eff_call rfl gf_86 rfl (W_laws_heldLatchLinkS hr21 ((slRep.old ha4 he16 (Nat.le_refl _)).wide (Nat.le_refl _) (he16).size))) ?_
    rintro _ w22 ⟨rfl, hx23⟩
    have he24 : Ext w w22 := Ext.trans he16 hx23
    have hb8 := Box.ext hb8 hx23
    have hz25 := (hx23).size
    refine TL.yld rfl rfl (yld_assign rfl rfl) ?_
    refine TL.done ?_
    refine NX.seq ?_
    refine WC.seq ?_
    refine WC.seq ?_
    refine WC.region ?_
    refine TL.yld rfl rfl (yld_move rfl rfl) ?_
    refine TL.yld rfl rfl (yld_lss rfl rfl rfl) ?_
    refine TL.done ?_
    refine NX.seq ?_
    refine WC.cond rfl ?_ ?_
    · intro hc26
      replace hF := bif_t hc26 hF
      refine WC.seq ?_
      refine WC.region ?_
      refine TL.yld rfl rfl (yld_assign rfl rfl) ?_
      refine TL.done ?_
      refine NX.seq ?_
      refine WC.ret' ?_
      refine NX.then_r ?_
      obtain rfl := Option.some.inj hF
      exact NX.end (rs := [.tmp 4]) (vs := [.int .i64 (-1)]) rfl ⟨rfl, trivial⟩ ⟨_, rfl, rfl, he24⟩
    · intro hc27
      replace hF := bif_f hc27 hF
      refine WC.skip' ?_
      refine NX.seq ?_
      refine WC.seq ?_
      refine WC.region ?_
      refine TL.yld rfl rfl (yld_move rfl rfl) ?_
      refine TL.yld rfl rfl (yld_assign rfl rfl) ?_
      refine TL.done ?_
      refine NX.seq ?_
      refine WC.ret' ?_
      obtain rfl := Option.some.inj hF
      exact NX.end (rs := [.tmp 4]) (vs := [.int .i64 r20]) rfl ⟨rfl, trivial⟩ ⟨_, rfl, rfl, he24⟩

-- loop.example/g00861/laws.FnExactShiftLinks
def F_laws_FnExactShiftLinks (n : Nat) (a0_aS : S_LatchSystem) (a1_aBy : Int) : Option Bool := (Option.bind (F_laws_szLatchSystem n a0_aS 1048576) fun r12 => (bif decide (r12 < 0) then (some true) else (Option.bind (F_laws_toLatchSystem n a0_aS) fun r20 => (Option.bind (F_spec_ShiftLinks n r20 a1_aBy) fun r35 => (Option.bind (F_laws_toLatchSystem n a0_aS) fun r62 => (Option.bind (F_impl_ShiftLinks n r62 a1_aBy) fun r89 => (Option.bind (F_laws_eqLatchSystem n r89.1 r35.1) fun r116 => (bif ((!r116) || ((r89.2 != r35.2))) then (some false) else (Option.bind (F_laws_toLatchSystem n a0_aS) fun r129 => (Option.bind (F_laws_eqLatchSystem n r62 r129) fun r144 => (bif (!r144) then (some false) else (Option.bind (F_laws_markLatchSystem n r62 1) fun r174 => (Option.bind (bif decide (r174.1 < 0) then (some true) else (Option.bind (F_laws_eqLatchSystem n r89.1 r35.1) fun r198 => (some (!r198)))) fun c198 => (bif (c198 || ((r89.2 != r35.2))) then (some false) else (Option.bind (F_laws_markLatchSystem n r89.1 1) fun r218 => (Option.bind (F_laws_heldLatchSystem n ((S_LatchSystem.mk r218.2.1 r218.2.2)) 1) fun r242 => (bif decide (r242 < 0) then (some false) else (bif (r242 != r218.1) then (some false) else (Option.bind (F_laws_toLatchSystem n a0_aS) fun r252 => (Option.bind (F_impl_ShiftLinks n r252 a1_aBy) fun r267 => (Option.bind (F_laws_eqLatchSystem n r267.1 r35.1) fun r294 => (bif ((!r294) || ((r267.2 != r35.2))) then (some false) else (Option.bind (F_laws_heldLatchSystem n ((S_LatchSystem.mk r218.2.1 r218.2.2)) 1) fun r307 => (bif decide (r307 < 0) then (some false) else (bif (r307 != r218.1) then (some false) else (some true))))))))))))))))))))))))))
set_option maxHeartbeats 4000000 in
theorem W_laws_FnExactShiftLinks {n : Nat} {a0_aS : S_LatchSystem} {a1_aBy : Int} {r : Bool} {w : World} {v1 : Value} {v3 : Value} (hF : F_laws_FnExactShiftLinks n a0_aS a1_aBy = some r) (ha2 : slRep C_Latch w (Iv 0 w.heap.size) a0_aS.Latches v1) (ha4 : slRep C_LatchLink w (Iv 0 w.heap.size) a0_aS.Links v3) :
    Calls Try.prog 9 [.agg #[v1, v3], .int .i64 a1_aBy].toArray w (Ret fun u w2 => u = .bool r ∧ Ext w w2) := by
  refine calls_of Try.func9 rfl Try.ntmps9 ?_
  have he0 : Ext w w := Ext.refl w
  unfold F_laws_FnExactShiftLinks at hF
  refine WC.seq ?_
  refine WC.region ?_
  refine TL.eff rfl rfl (eff_box rfl rfl) ?_
  rintro _ w6 ⟨b5, rfl, hn7⟩
  obtain ⟨hn7e, hn7s, hn7x, hb8⟩ := hn7
  have hb8 : Box w6 b5 [v1, v3] 32 := hb8
  have he10 : Ext w w6 := Ext.trans he0 hn7x
  have hz11 := (hn7x).size
  have hlo9 : w.heap.size ≤ b5 := by rw [hn7e]; exact (he0).size
  refine TL.yld rfl rfl (yld_assign rfl rfl) ?_
  refine TL.done ?_
  refine NX.seq ?_
  refine WC.seq ?_
  refine WC.region ?_
  refine TL.yld rfl rfl (yld_assign rfl rfl) ?_
  refine TL.done ?_
  refine NX.seq ?_
  refine WC.seq ?_
  refine WC.region ?_
  refine TL.yld rfl rfl (yld_loadN (us := [v1, v3]) rfl ag_32 rfl (Box.cells hb8) cn_32) ?_
  refine TL.yld rfl rfl (yld_move rfl rfl) ?_
  obtain ⟨r12, hr13, hF⟩ := bsome hF
  refine TL.eff rfl rfl (eff_call rfl gf_18 rfl (W_laws_szLatchSystem hr13 ((slRep.old ha2 he10 (Nat.le_refl _)).wide (Nat.le_refl _) (he10).size) ((slRep.old ha4 he10 (Nat.le_refl _)).wide (Nat.le_refl _) (he10).size))) ?_
  rintro _ w14 ⟨rfl, hx15⟩
  have he16 : Ext w w14 := Ext.trans he10 hx15
  have hb8 := Box.ext hb8 hx15
  have hz17 := (hx15).size
  refine TL.yld rfl rfl (yld_assign rfl rfl) ?_
  refine TL.done ?_
  refine NX.seq ?_
  refine WC.seq ?_
  refine WC.seq ?_
  refine WC.region ?_
  refine TL.yld rfl rfl (yld_move rfl rfl) ?_
  refine TL.yld rfl rfl (yld_lss rfl rfl rfl) ?_
  refine TL.done ?_
  refine NX.seq ?_
  refine WC.cond rfl ?_ ?_
  · intro hc18
    replace hF := bif_t hc18 hF
    refine WC.seq ?_
    refine WC.region ?_
    refine TL.yld rfl rfl (yld_assign rfl rfl) ?_
    refine TL.done ?_
    refine NX.seq ?_
    refine WC.ret' ?_
    refine NX.then_r ?_
    obtain rfl := Option.some.inj hF
    exact NX.end (rs := [.tmp 4]) (vs := [.bool true]) rfl ⟨rfl, trivial⟩ ⟨_, rfl, rfl, he16⟩
  · intro hc19
    replace hF := bif_f hc19 hF
    refine WC.skip' ?_
    refine NX.seq ?_
    refine WC.seq ?_
    refine WC.region ?_
    refine TL.yld rfl rfl (yld_loadN (us := [v1, v3]) rfl ag_32 rfl (Box.cells hb8) cn_32) ?_
    obtain ⟨r20, hr21, hF⟩ := bsome hF
    refine TL.eff rfl rfl (eff_call rfl gf_20 rfl (W_laws_toLatchSystem hr21 ((slRep.old ha2 he16 (Nat.le_refl _)).wide (Nat.le_refl _) (he16).size) ((slRep.old ha4 he16 (Nat.le_refl _)).wide (Nat.le_refl _) (he16).size))) ?_
    rintro _ w22 ⟨v24, v26, rfl, hs25, hs27, hp32, hx23⟩
    have he33 : Ext w w22 := Ext.trans he16 hx23
    have hb8 := Box.ext hb8 hx23
    have hz34 := (hx23).size
    have hbd29 := ownR.blk hs25
    have hbd31 := ownR.blk hs27
    refine TL.yld rfl rfl (yld_move rfl rfl) ?_
    obtain ⟨r35, hr36, hF⟩ := bsome hF
    refine TL.eff rfl rfl (eff_call rfl gf_41 rfl (W_spec_ShiftLinks hr36 (ownR.slf hs25 (Nat.zero_le _) (Nat.le_refl _)) (ownR.slf hs27 (Nat.zero_le _) (Nat.le_refl _)))) ?_
    rintro _ w37 ⟨v39, v41, rfl, hs40, hs42, hp47, hx38⟩
    have he48 : Ext w w37 := Ext.trans he33 hx38
    have hb8 := Box.ext hb8 hx38
    have hs25 := ownR.ext hs25 hx38
    have hs27 := ownR.ext hs27 hx38
    have hz49 := (hx38).size
    have hbd44 := ownR.blk hs40
    have hbd46 := ownR.blk hs42
    refine TL.yld rfl rfl (yld_move rfl rfl) ?_
    refine TL.yld rfl rfl (yld_extract rfl rfl rfl) ?_
    refine TL.yld rfl rfl (yld_extract rfl rfl rfl) ?_
    refine TL.eff rfl rfl (eff_alloc rfl zn_38) ?_
    rintro _ w51 ⟨b50, rfl, hn52⟩
    obtain ⟨hn52e, hn52s, hn52x, hb53⟩ := hn52
    have hb53 : Box w51 b50 [.slice none 0 0, .slice none 0 0] 38 := hb53
    have he55 : Ext w w51 := Ext.trans he48 hn52x
    have hb8 := Box.ext hb8 hn52x
    have hs25 := ownR.ext hs25 hn52x
    have hs27 := ownR.ext hs27 hn52x
    have hs40 := ownR.ext hs40 hn52x
    have hs42 := ownR.ext hs42 hn52x
    have hz56 := (hn52x).size
    have hlo54 : w.heap.size ≤ b50 := by rw [hn52e]; exact (he48).size
    refine TL.eff rfl rfl (eff_store rfl rfl rfl hb53 cn_38 (allc_cons (slRep.one (ownR.slf hs40 (Nat.le_refl _) (Nat.le_refl _))) (allc_cons (slRep.one (ownR.slf hs42 (Nat.le_refl _) (Nat.le_refl _))) allc_nil)) rfl) ?_
    rintro _ w57 ⟨hu58, hb59⟩
    have he60 : Ext w w57 := Below.trans he55 (Upd.below hu58 (by omega))
    have hb8 := Box.upd hb8 hu58 (by omega)
    have hs25 := ownR.upd hs25 hu58 (fun g hg => by have := hbd29 g hg; omega)
    have hs27 := ownR.upd hs27 hu58 (fun g hg => by have := hbd31 g hg; omega)
    have hs40 := ownR.upd hs40 hu58 (fun g hg => by have := hbd44 g hg; omega)
    have hs42 := ownR.upd hs42 hu58 (fun g hg => by have := hbd46 g hg; omega)
    have hz61 := (hu58).size
    have hb53 : Box w57 b50 [v39, v41] 38 := hb59
    refine TL.yld rfl rfl (yld_assign rfl rfl) ?_
    refine TL.done ?_
    refine NX.seq ?_
    refine WC.seq ?_
    refine WC.region ?_
    refine TL.yld rfl rfl (yld_loadN (us := [v1, v3]) rfl ag_32 rfl (Box.cells hb8) cn_32) ?_
    obtain ⟨r62, hr63, hF⟩ := bsome hF
    refine TL.eff rfl rfl (eff_call rfl gf_20 rfl (W_laws_toLatchSystem hr63 ((slRep.old ha2 he60 (Nat.le_refl _)).wide (Nat.le_refl _) (he60).size) ((slRep.old ha4 he60 (Nat.le_refl _)).wide (Nat.le_refl _) (he60).size))) ?_
    rintro _ w64 ⟨v66, v68, rfl, hs67, hs69, hp74, hx65⟩
    have he75 : Ext w w64 := Ext.trans he60 hx65
    have hb8 := Box.ext hb8 hx65
    have hb53 := Box.ext hb53 hx65
    have hs25 := ownR.ext hs25 hx65
    have hs27 := ownR.ext hs27 hx65
    have hs40 := ownR.ext hs40 hx65
    have hs42 := ownR.ext hs42 hx65
    have hz76 := (hx65).size
    have hbd71 := ownR.blk hs67
    have hbd73 := ownR.blk hs69
    refine TL.eff rfl rfl (eff_alloc rfl zn_38) ?_
    rintro _ w78 ⟨b77, rfl, hn79⟩
    obtain ⟨hn79e, hn79s, hn79x, hb80⟩ := hn79
    have hb80 : Box w78 b77 [.slice none 0 0, .slice none 0 0] 38 := hb80
    have he82 : Ext w w78 := Ext.trans he75 hn79x
    have hb8 := Box.ext hb8 hn79x
    have hb53 := Box.ext hb53 hn79x
    have hs25 := ownR.ext hs25 hn79x
    have hs27 := ownR.ext hs27 hn79x
    have hs40 := ownR.ext hs40 hn79x
    have hs42 := ownR.ext hs42 hn79x
    have hs67 := ownR.ext hs67 hn79x
    have hs69 := ownR.ext hs69 hn79x
    have hz83 := (hn79x).size
    have hlo81 : w.heap.size ≤ b77 := by rw [hn79e]; exact (he75).size
    refine TL.eff rfl rfl (eff_store rfl rfl rfl hb80 cn_38 (allc_cons (slRep.one (ownR.slf hs67 (Nat.le_refl _) (Nat.le_refl _))) (allc_cons (slRep.one (ownR.slf hs69 (Nat.le_refl _) (Nat.le_refl _))) allc_nil)) rfl) ?_
    rintro _ w84 ⟨hu85, hb86⟩
    have he87 : Ext w w84 := Below.trans he82 (Upd.below hu85 (by omega))
    have hb8 := Box.upd hb8 hu85 (by omega)
    have hb53 := Box.upd hb53 hu85 (by omega)
    have hs25 := ownR.upd hs25 hu85 (fun g hg => by have := hbd29 g hg; omega)
    have hs27 := ownR.upd hs27 hu85 (fun g hg => by have := hbd31 g hg; omega)
    have hs40 := ownR.upd hs40 hu85 (fun g hg => by have := hbd44 g hg; omega)
    have hs42 := ownR.upd hs42 hu85 (fun g hg => by have := hbd46 g hg; omega)
    have hs67 := ownR.upd hs67 hu85 (fun g hg => by have := hbd71 g hg; omega)
    have hs69 := ownR.upd hs69 hu85 (fun g hg => by have := hbd73 g hg; omega)
    have hz88 := (hu85).size
    have hb80 : Box w84 b77 [v66, v68] 38 := hb86
    refine TL.done ?_
    refine NX.seq ?_
    refine WC.seq ?_
    refine WC.region ?_
    refine TL.yld rfl rfl (yld_loadN (us := [v66, v68]) rfl ag_38 rfl (Box.cells hb80) cn_38) ?_
    refine TL.yld rfl rfl (yld_move rfl rfl) ?_
    obtain ⟨r89, hr90, hF⟩ := bsome hF
    refine TL.eff rfl rfl (eff_call rfl gf_42 rfl (W_impl_ShiftLinks hr90 (ownR.slf hs67 (Nat.zero_le _) (Nat.le_refl _)) (ownR.slf hs69 (Nat.zero_le _) (Nat.le_refl _)))) ?_
    rintro _ w91 ⟨v93, v95, rfl, hs94, hs96, hp101, hx92⟩
    have he102 : Ext w w91 := Ext.trans he87 hx92
    have hb8 := Box.ext hb8 hx92
    have hb53 := Box.ext hb53 hx92
    have hb80 := Box.ext hb80 hx92
    have hs25 := ownR.ext hs25 hx92
    have hs27 := ownR.ext hs27 hx92
    have hs40 := ownR.ext hs40 hx92
    have hs42 := ownR.ext hs42 hx92
    have hs67 := ownR.ext hs67 hx92
    have hs69 := ownR.ext hs69 hx92
    have hz103 := (hx92).size
    have hbd98 := ownR.blk hs94
    have hbd100 := ownR.blk hs96
    refine TL.yld rfl rfl (yld_move rfl rfl) ?_
    refine TL.yld rfl rfl (yld_extract rfl rfl rfl) ?_
    refine TL.yld rfl rfl (yld_extract rfl rfl rfl) ?_
    refine TL.eff rfl rfl (eff_alloc rfl zn_38) ?_
    rintro _ w105 ⟨b104, rfl, hn106⟩
    obtain ⟨hn106e, hn106s, hn106x, hb107⟩ := hn106
    have hb107 : Box w105 b104 [.slice none 0 0, .slice none 0 0] 38 := hb107
    have he109 : Ext w w105 := Ext.trans he102 hn106x
    have hb8 := Box.ext hb8 hn106x
    have hb53 := Box.ext hb53 hn106x
    have hb80 := Box.ext hb80 hn106x
    have hs25 := ownR.ext hs25 hn106x
    have hs27 := ownR.ext hs27 hn106x
    have hs40 := ownR.ext hs40 hn106x
    have hs42 := ownR.ext hs42 hn106x
    have hs67 := ownR.ext hs67 hn106x
    have hs69 := ownR.ext hs69 hn106x
    have hs94 := ownR.ext hs94 hn106x
    have hs96 := ownR.ext hs96 hn106x
    have hz110 := (hn106x).size
    have hlo108 : w.heap.size ≤ b104 := by rw [hn106e]; exact (he102).size
    refine TL.eff rfl rfl (eff_store rfl rfl rfl hb107 cn_38 (allc_cons (slRep.one (ownR.slf hs94 (Nat.le_refl _) (Nat.le_refl _))) (allc_cons (slRep.one (ownR.slf hs96 (Nat.le_refl _) (Nat.le_refl _))) allc_nil)) rfl) ?_
    rintro _ w111 ⟨hu112, hb113⟩
    have he114 : Ext w w111 := Below.trans he109 (Upd.below hu112 (by omega))
    have hb8 := Box.upd hb8 hu112 (by omega)
    have hb53 := Box.upd hb53 hu112 (by omega)
    have hb80 := Box.upd hb80 hu112 (by omega)
    have hs25 := ownR.upd hs25 hu112 (fun g hg => by have := hbd29 g hg; omega)
    have hs27 := ownR.upd hs27 hu112 (fun g hg => by have := hbd31 g hg; omega)
    have hs40 := ownR.upd hs40 hu112 (fun g hg => by have := hbd44 g hg; omega)
    have hs42 := ownR.upd hs42 hu112 (fun g hg => by have := hbd46 g hg; omega)
    have hs67 := ownR.upd hs67 hu112 (fun g hg => by have := hbd71 g hg; omega)
    have hs69 := ownR.upd hs69 hu112 (fun g hg => by have := hbd73 g hg; omega)
    have hs94 := ownR.upd hs94 hu112 (fun g hg => by have := hbd98 g hg; omega)
    have hs96 := ownR.upd hs96 hu112 (fun g hg => by have := hbd100 g hg; omega)
    have hz115 := (hu112).size
    have hb107 : Box w111 b104 [v93, v95] 38 := hb113
    refine TL.yld rfl rfl (yld_assign rfl rfl) ?_
    refine TL.done ?_
    refine NX.seq ?_
    refine WC.seq ?_
    refine WC.seq ?_
    refine WC.region ?_
    refine TL.yld rfl rfl (yld_loadN (us := [v93, v95]) rfl ag_38 rfl (Box.cells hb107) cn_38) ?_
    refine TL.yld rfl rfl (yld_loadN (us := [v39, v41]) rfl ag_38 rfl (Box.cells hb53) cn_38) ?_
    obtain ⟨r116, hr117, hF⟩ := bsome hF
    refine TL.eff rfl rfl (eff_call rfl gf_22 rfl (W_laws_eqLatchSystem hr117 (ownR.slf hs94 (Nat.zero_le _) (Nat.le_refl _)) (ownR.slf hs96 (Nat.zero_le _) (Nat.le_refl _)) (ownR.slf hs40 (Nat.zero_le _) (Nat.le_refl _)) (ownR.slf hs42 (Nat.zero_le _) (Nat.le_refl _)))) ?_
    rintro _ w118 ⟨rfl, hx119⟩
    have he120 : Ext w w118 := Ext.trans he114 hx119
    have hb8 := Box.ext hb8 hx119
    have hb53 := Box.ext hb53 hx119
    have hb80 := Box.ext hb80 hx119
    have hb107 := Box.ext hb107 hx119
    have hs25 := ownR.ext hs25 hx119
    have hs27 := ownR.ext hs27 hx119
    have hs40 := ownR.ext hs40 hx119
    have hs42 := ownR.ext hs42 hx119
    have hs67 := ownR.ext hs67 hx119
    have hs69 := ownR.ext hs69 hx119
    have hs94 := ownR.ext hs94 hx119
    have hs96 := ownR.ext hs96 hx119
    have hz121 := (hx119).size
    refine TL.yld rfl rfl (yld_not rfl rfl) ?_
    refine TL.yld rfl rfl (yld_move rfl rfl) ?_
    refine TL.cut 4 [(1, .int .i64 a1_aBy), (2, .pointer (some ⟨b5, 0, none⟩)), (6, .pointer (some ⟨b50, 0, none⟩)), (7, .int .i64 r35.2), (8, .pointer (some ⟨b77, 0, none⟩)), (9, .pointer (some ⟨b104, 0, none⟩)), (10, .int .i64 r89.2), (44, .bool (((!r116) || ((r89.2 != r35.2)))))] (fun w' => Ext w118 w') ?_ ?_
    · rcases Bool.eq_false_or_eq_true (!r116) with hg122 | hg122
      ·
        refine TL.gnu (j := 4) (t := 40) rfl rfl rfl hg122 rfl ?_
        refine TL.gnu (j := 4) (t := 40) rfl rfl rfl hg122 rfl ?_
        refine TL.gnu (j := 4) (t := 40) rfl rfl rfl hg122 rfl ?_
        refine TL.yld rfl rfl (yld_or_t (b2 := (r89.2 != r35.2)) rfl rfl hg122 rfl) ?_
        exact TL.nil fun a h => ⟨h.weaken ⟨rfl, rfl, rfl, rfl, rfl, rfl, rfl, rfl, trivial⟩, Ext.refl _⟩
      ·
        refine TL.gy (j := 4) (t := 40) rfl rfl rfl hg122 rfl (yld_move rfl rfl) ?_
        refine TL.gy (j := 4) (t := 40) rfl rfl rfl hg122 rfl (yld_move rfl rfl) ?_
        refine TL.gy (j := 4) (t := 40) rfl rfl rfl hg122 rfl (yld_neq rfl rfl rfl) ?_
        refine TL.yld rfl rfl (yld_or_f rfl rfl hg122 rfl) ?_
        exact TL.nil fun a h => ⟨h.weaken ⟨rfl, rfl, rfl, rfl, rfl, rfl, rfl, rfl, trivial⟩, Ext.refl _⟩
    intro w123 hx124
    have he125 : Ext w w123 := Ext.trans he120 hx124
    have hb8 := Box.ext hb8 hx124
    have hb53 := Box.ext hb53 hx124
    have hb80 := Box.ext hb80 hx124
    have hb107 := Box.ext hb107 hx124
    have hs25 := ownR.ext hs25 hx124
    have hs27 := ownR.ext hs27 hx124
    have hs40 := ownR.ext hs40 hx124
    have hs42 := ownR.ext hs42 hx124
    have hs67 := ownR.ext hs67 hx124
    have hs69 := ownR.ext hs69 hx124
    have hs94 := ownR.ext hs94 hx124
    have hs96 := ownR.ext hs96 hx124
    have hz126 := (hx124).size
    refine TL.done ?_
    refine NX.seq ?_
    refine WC.cond rfl ?_ ?_
    · intro hc127
      replace hF := bif_t hc127 hF
      refine WC.seq ?_
      refine WC.region ?_
      refine TL.yld rfl rfl (yld_assign rfl rfl) ?_
      refine TL.done ?_
      refine NX.seq ?_
      refine WC.ret' ?_
      refine NX.then_r ?_
      obtain rfl := Option.some.inj hF
      exact NX.end (rs := [.tmp 4]) (vs := [.bool false]) rfl ⟨rfl, trivial⟩ ⟨_, rfl, rfl, he125⟩
    · intro hc128
      replace hF := bif_f hc128 hF
      refine WC.skip' ?_
      refine NX.seq ?_
      refine WC.seq ?_
      refine WC.seq ?_
      obtain ⟨r129, hr130, hF⟩ := bsome hF
      obtain ⟨r144, hr145, hF⟩ := bsome hF
      refine WC.held 3 Try.hm fun w150 hx151 => ?_
      have he152 : Ext w w150 := Ext.trans he125 hx151
      have hb8 := Box.ext hb8 hx151
      have hb53 := Box.ext hb53 hx151
      have hb80 := Box.ext hb80 hx151
      have hb107 := Box.ext hb107 hx151
      have hs25 := ownR.ext hs25 hx151
      have hs27 := ownR.ext hs27 hx151
      have hs40 := ownR.ext hs40 hx151
      have hs42 := ownR.ext hs42 hx151
      have hs67 := ownR.ext hs67 hx151
      have hs69 := ownR.ext hs69 hx151
      have hs94 := ownR.ext hs94 hx151
      have hs96 := ownR.ext hs96 hx151
      have hz153 := (hx151).size
      refine HL.yld 0 (by kernel_rfl) rfl (by kernel_rfl) rfl rfl (yld_loadN (us := [v66, v68]) rfl ag_38 rfl (Box.cells hb80) cn_38) ?_
      refine HL.yld 1 (by kernel_rfl) rfl (by kernel_rfl) rfl rfl (yld_loadN (us := [v1, v3]) rfl ag_32 rfl (Box.cells hb8) cn_32) ?_
      refine HL.eff 2 rfl rfl (by kernel_rfl) rfl rfl (eff_call rfl gf_20 rfl (W_laws_toLatchSystem hr130 ((slRep.old ha2 he152 (Nat.le_refl _)).wide (Nat.le_refl _) (he152).size) ((slRep.old ha4 he152 (Nat.le_refl _)).wide (Nat.le_refl _) (he152).size))) ?_
      rintro _ w154 ⟨v156, v158, rfl, hs157, hs159, hp164, hx155⟩
      have hbs165 : Ext w150 w154 := Ext.trans (Ext.refl w150) hx155
      have he166 : Ext w w154 := Ext.trans he152 hx155
      have hb8 := Box.ext hb8 hx155
      have hb53 := Box.ext hb53 hx155
      have hb80 := Box.ext hb80 hx155
      have hb107 := Box.ext hb107 hx155
      have hs25 := ownR.ext hs25 hx155
      have hs27 := ownR.ext hs27 hx155
      have hs40 := ownR.ext hs40 hx155
      have hs42 := ownR.ext hs42 hx155
      have hs67 := ownR.ext hs67 hx155
      have hs69 := ownR.ext hs69 hx155
      have hs94 := ownR.ext hs94 hx155
      have hs96 := ownR.ext hs96 hx155
      have hz167 := (hx155).size
      have hbd161 := ownR.blk hs157
      have hbd163 := ownR.blk hs159
      refine ⟨hbs165, ?_⟩
      refine HL.tail rfl (by kernel_rfl) rfl ?_
      refine TL.eff rfl rfl (eff_call rfl gf_22 rfl (W_laws_eqLatchSystem hr145 (ownR.slf hs67 (Nat.zero_le _) (Nat.le_refl _)) (ownR.slf hs69 (Nat.zero_le _) (Nat.le_refl _)) (ownR.slf hs157 (Nat.zero_le _) (Nat.le_refl _)) (ownR.slf hs159 (Nat.zero_le _) (Nat.le_refl _)))) ?_
      rintro _ w168 ⟨rfl, hx169⟩
      have he170 : Ext w w168 := Ext.trans he166 hx169
      have hb8 := Box.ext hb8 hx169
      have hb53 := Box.ext hb53 hx169
      have hb80 := Box.ext hb80 hx169
      have hb107 := Box.ext hb107 hx169
      have hs25 := ownR.ext hs25 hx169
      have hs27 := ownR.ext hs27 hx169
      have hs40 := ownR.ext hs40 hx169
      have hs42 := ownR.ext hs42 hx169
      have hs67 := ownR.ext hs67 hx169
      have hs69 := ownR.ext hs69 hx169
      have hs94 := ownR.ext hs94 hx169
      have hs96 := ownR.ext hs96 hx169
      have hs157 := ownR.ext hs157 hx169
      have hs159 := ownR.ext hs159 hx169
      have hz171 := (hx169).size
      refine TL.yld rfl rfl (yld_not rfl rfl) ?_
      refine TL.noPan (l := []) ?_
      refine NX.seq ?_
      refine WC.cond rfl ?_ ?_
      · intro hc172
        replace hF := bif_t hc172 hF
        refine WC.seq ?_
        refine WC.region ?_
        refine TL.yld rfl rfl (yld_assign rfl rfl) ?_
        refine TL.done ?_
        refine NX.seq ?_
        refine WC.ret' ?_
        refine NX.then_r ?_
        obtain rfl := Option.some.inj hF
        exact NX.end (rs := [.tmp 4]) (vs := [.bool false]) rfl ⟨rfl, trivial⟩ ⟨_, rfl, rfl, he170⟩
      · intro hc173
        replace hF := bif_f hc173 hF
        refine WC.skip' ?_
        refine NX.seq ?_
        refine WC.seq ?_
        refine WC.region ?_
        refine TL.yld rfl rfl (yld_assign rfl rfl) ?_
        refine TL.done ?_
        refine NX.seq ?_
        refine WC.seq ?_
        refine WC.region ?_
        refine TL.yld rfl rfl (yld_loadN (us := [v66, v68]) rfl ag_38 rfl (Box.cells hb80) cn_38) ?_
        refine TL.yld rfl rfl (yld_move rfl rfl) ?_
        obtain ⟨r174, hr175, hF⟩ := bsome hF
        refine TL.eff rfl rfl (eff_call rfl gf_43 rfl (W_laws_markLatchSystem hr175 hs67 hs69 hp74)) ?_
        rintro _ w176 ⟨rfl, hs178, hs179, hx177⟩
        have he180 : Ext w w176 := Below.trans he170 (But.below hx177 (all_por (all_pO (fun g hg => by have := hbd71 g hg; omega)) (all_pO (fun g hg => by have := hbd73 g hg; omega))) (he170).size)
        have hb8 := Box.but hb8 hx177 (all_por (all_pO (fun g hg => by have := hbd71 g hg; omega)) (all_pO (fun g hg => by have := hbd73 g hg; omega)))
        have hb53 := Box.but hb53 hx177 (all_por (all_pO (fun g hg => by have := hbd71 g hg; omega)) (all_pO (fun g hg => by have := hbd73 g hg; omega)))
        have hb80 := Box.but hb80 hx177 (all_por (all_pO (fun g hg => by have := hbd71 g hg; omega)) (all_pO (fun g hg => by have := hbd73 g hg; omega)))
        have hb107 := Box.but hb107 hx177 (all_por (all_pO (fun g hg => by have := hbd71 g hg; omega)) (all_pO (fun g hg => by have := hbd73 g hg; omega)))
        have hp181 : ∀ g q, v66.ownBlock = some g → v24.ownBlock = some q → g ≠ q := (fun g q hg hq => by have := hbd71 g hg; have := hbd29 q hq; omega)
        have hp182 : ∀ g q, v68.ownBlock = some g → v24.ownBlock = some q → g ≠ q := (fun g q hg hq => by have := hbd73 g hg; have := hbd29 q hq; omega)
        have hs25 := ownR.butF hs25 hx177 (all_por (all_pO (fun g hg q hq => hp181 g q hg hq)) (all_pO (fun g hg q hq => hp182 g q hg hq)))
        have hp183 : ∀ g q, v66.ownBlock = some g → v26.ownBlock = some q → g ≠ q := (fun g q hg hq => by have := hbd71 g hg; have := hbd31 q hq; omega)
        have hp184 : ∀ g q, v68.ownBlock = some g → v26.ownBlock = some q → g ≠ q := (fun g q hg hq => by have := hbd73 g hg; have := hbd31 q hq; omega)
        have hs27 := ownR.butF hs27 hx177 (all_por (all_pO (fun g hg q hq => hp183 g q hg hq)) (all_pO (fun g hg q hq => hp184 g q hg hq)))
        have hp185 : ∀ g q, v66.ownBlock = some g → v39.ownBlock = some q → g ≠ q := (fun g q hg hq => by have := hbd71 g hg; have := hbd44 q hq; omega)
        have hp186 : ∀ g q, v68.ownBlock = some g → v39.ownBlock = some q → g ≠ q := (fun g q hg hq => by have := hbd73 g hg; have := hbd44 q hq; omega)
        have hs40 := ownR.butF hs40 hx177 (all_por (all_pO (fun g hg q hq => hp185 g q hg hq)) (all_pO (fun g hg q hq => hp186 g q hg hq)))
        have hp187 : ∀ g q, v66.ownBlock = some g → v41.ownBlock = some q → g ≠ q := (fun g q hg hq => by have := hbd71 g hg; have := hbd46 q hq; omega)
        have hp188 : ∀ g q, v68.ownBlock = some g → v41.ownBlock = some q → g ≠ q := (fun g q hg hq => by have := hbd73 g hg; have := hbd46 q hq; omega)
        have hs42 := ownR.butF hs42 hx177 (all_por (all_pO (fun g hg q hq => hp187 g q hg hq)) (all_pO (fun g hg q hq => hp188 g q hg hq)))
        have hp189 : ∀ g q, v66.ownBlock = some g → v93.ownBlock = some q → g ≠ q := (fun g q hg hq => by have := hbd71 g hg; have := hbd98 q hq; omega)
        have hp190 : ∀ g q, v68.ownBlock = some g → v93.ownBlock = some q → g ≠ q := (fun g q hg hq => by have := hbd73 g hg; have := hbd98 q hq; omega)
        have hs94 := ownR.butF hs94 hx177 (all_por (all_pO (fun g hg q hq => hp189 g q hg hq)) (all_pO (fun g hg q hq => hp190 g q hg hq)))
        have hp191 : ∀ g q, v66.ownBlock = some g → v95.ownBlock = some q → g ≠ q := (fun g q hg hq => by have := hbd71 g hg; have := hbd100 q hq; omega)
        have hp192 : ∀ g q, v68.ownBlock = some g → v95.ownBlock = some q → g ≠ q := (fun g q hg hq => by have := hbd73 g hg; have := hbd100 q hq; omega)
        have hs96 := ownR.butF hs96 hx177 (all_por (all_pO (fun g hg q hq => hp191 g q hg hq)) (all_pO (fun g hg q hq => hp192 g q hg hq)))
        have hp193 : ∀ g q, v66.ownBlock = some g → v156.ownBlock = some q → g ≠ q := (fun g q hg hq => by have := hbd71 g hg; have := hbd161 q hq; omega)
        have hp194 : ∀ g q, v68.ownBlock = some g → v156.ownBlock = some q → g ≠ q := (fun g q hg hq => by have := hbd73 g hg; have := hbd161 q hq; omega)
        have hs157 := ownR.butF hs157 hx177 (all_por (all_pO (fun g hg q hq => hp193 g q hg hq)) (all_pO (fun g hg q hq => hp194 g q hg hq)))
        have hp195 : ∀ g q, v66.ownBlock = some g → v158.ownBlock = some q → g ≠ q := (fun g q hg hq => by have := hbd71 g hg; have := hbd163 q hq; omega)
        have hp196 : ∀ g q, v68.ownBlock = some g → v158.ownBlock = some q → g ≠ q := (fun g q hg hq => by have := hbd73 g hg; have := hbd163 q hq; omega)
        have hs159 := ownR.butF hs159 hx177 (all_por (all_pO (fun g hg q hq => hp195 g q hg hq)) (all_pO (fun g hg q hq => hp196 g q hg hq)))
        have hz197 := (hx177).size
        refine TL.yld rfl rfl (yld_assign rfl rfl) ?_
        refine TL.done ?_
        refine NX.seq ?_
        refine WC.seq ?_
        refine WC.seq ?_
        refine WC.region ?_
        refine TL.yld rfl rfl (yld_move rfl rfl) ?_
        refine TL.yld rfl rfl (yld_lss rfl rfl rfl) ?_
        refine TL.yld rfl rfl (yld_move rfl rfl) ?_
        obtain ⟨c198, hb199, hF⟩ := bsome hF
        refine TL.cut 5 [(1, .int .i64 a1_aBy), (2, .pointer (some ⟨b5, 0, none⟩)), (6, .pointer (some ⟨b50, 0, none⟩)), (7, .int .i64 r35.2), (9, .pointer (some ⟨b104, 0, none⟩)), (10, .int .i64 r89.2), (60, .bool c198)] (fun w' => Ext w176 w') ?_ ?_
        · rcases Bool.eq_false_or_eq_true (decide (r174.1 < 0)) with hg200 | hg200
          ·
            rw [hg200] at hb199; simp only [cond_true, cond_false] at hb199
            refine TL.gnu (j := 2) (t := 55) rfl rfl rfl hg200 rfl ?_
            refine TL.gnu (j := 2) (t := 55) rfl rfl rfl hg200 rfl ?_
            refine TL.gnu (j := 2) (t := 55) rfl rfl rfl hg200 rfl ?_
            refine TL.gnu (j := 2) (t := 55) rfl rfl rfl hg200 rfl ?_
            obtain rfl := Option.some.inj hb199
            refine TL.yld rfl rfl (yld_pick_t rfl rfl hg200 rfl) ?_
            exact TL.nil fun a h => ⟨h.weaken ⟨rfl, rfl, rfl, rfl, rfl, rfl, rfl, trivial⟩, Ext.refl _⟩
          ·
            rw [hg200] at hb199; simp only [cond_true, cond_false] at hb199
            replace hF := hb199
            refine TL.gy (j := 2) (t := 55) rfl rfl rfl hg200 rfl (yld_loadN (us := [v93, v95]) rfl ag_38 rfl (Box.cells hb107) cn_38) ?_
            refine TL.gy (j := 2) (t := 55) rfl rfl rfl hg200 rfl (yld_loadN (us := [v39, v41]) rfl ag_38 rfl (Box.cells hb53) cn_38) ?_
            obtain ⟨r201, hr202, hF⟩ := bsome hF
            refine TL.ge (j := 2) (t := 55) rfl rfl rfl hg200 rfl (eff_call rfl gf_22 rfl (W_laws_eqLatchSystem hr202 (ownR.slf hs94 (Nat.zero_le _) (Nat.le_refl _)) (ownR.slf hs96 (Nat.zero_le _) (Nat.le_refl _)) (ownR.slf hs40 (Nat.zero_le _) (Nat.le_refl _)) (ownR.slf hs42 (Nat.zero_le _) (Nat.le_refl _)))) ?_
            rintro _ w203 ⟨rfl, hx204⟩
            have he205 : Ext w w203 := Ext.trans he180 hx204
            have hb8 := Box.ext hb8 hx204
            have hb53 := Box.ext hb53 hx204
            have hb80 := Box.ext hb80 hx204
            have hb107 := Box.ext hb107 hx204
            have hs25 := ownR.ext hs25 hx204
            have hs27 := ownR.ext hs27 hx204
            have hs40 := ownR.ext hs40 hx204
            have hs42 := ownR.ext hs42 hx204
            have hs178 := ownR.ext hs178 hx204
            have hs179 := ownR.ext hs179 hx204
            have hs94 := ownR.ext hs94 hx204
            have hs96 := ownR.ext hs96 hx204
            have hs157 := ownR.ext hs157 hx204
            have hs159 := ownR.ext hs159 hx204
            have hz206 := (hx204).size
            refine TL.gy (j := 2) (t := 55) rfl rfl rfl hg200 rfl (yld_not rfl rfl) ?_
            obtain rfl := Option.some.inj hF
            refine TL.yld rfl rfl (yld_pick_f rfl rfl hg200 rfl) ?_
            exact TL.nil fun a h => ⟨h.weaken ⟨rfl, rfl, rfl, rfl, rfl, rfl, rfl, trivial⟩, hx204⟩
        intro w207 hx208
        have he209 : Ext w w207 := Ext.trans he180 hx208
        have hb8 := Box.ext hb8 hx208
        have hb53 := Box.ext hb53 hx208
        have hb80 := Box.ext hb80 hx208
        have hb107 := Box.ext hb107 hx208
        have hs25 := ownR.ext hs25 hx208
        have hs27 := ownR.ext hs27 hx208
        have hs40 := ownR.ext hs40 hx208
        have hs42 := ownR.ext hs42 hx208
        have hs178 := ownR.ext hs178 hx208
        have hs179 := ownR.ext hs179 hx208
        have hs94 := ownR.ext hs94 hx208
        have hs96 := ownR.ext hs96 hx208
        have hs157 := ownR.ext hs157 hx208
        have hs159 := ownR.ext hs159 hx208
        have hz210 := (hx208).size
        refine TL.yld rfl rfl (yld_move rfl rfl) ?_
        refine TL.cut 4 [(1, .int .i64 a1_aBy), (2, .pointer (some ⟨b5, 0, none⟩)), (6, .pointer (some ⟨b50, 0, none⟩)), (7, .int .i64 r35.2), (9, .pointer (some ⟨b104, 0, none⟩)), (65, .bool ((c198 || ((r89.2 != r35.2)))))] (fun w' => Ext w207 w') ?_ ?_
        · rcases Bool.eq_false_or_eq_true c198 with hg211 | hg211
          ·
            refine TL.gnu (j := 8) (t := 61) rfl rfl rfl hg211 rfl ?_
            refine TL.gnu (j := 8) (t := 61) rfl rfl rfl hg211 rfl ?_
            refine TL.gnu (j := 8) (t := 61) rfl rfl rfl hg211 rfl ?_
            refine TL.yld rfl rfl (yld_or_t (b2 := (r89.2 != r35.2)) rfl rfl hg211 rfl) ?_
            exact TL.nil fun a h => ⟨h.weaken ⟨rfl, rfl, rfl, rfl, rfl, rfl, trivial⟩, Ext.refl _⟩
          ·
            refine TL.gy (j := 8) (t := 61) rfl rfl rfl hg211 rfl (yld_move rfl rfl) ?_
            refine TL.gy (j := 8) (t := 61) rfl rfl rfl hg211 rfl (yld_move rfl rfl) ?_
            refine TL.gy (j := 8) (t := 61) rfl rfl rfl hg211 rfl (yld_neq rfl rfl rfl) ?_
            refine TL.yld rfl rfl (yld_or_f rfl rfl hg211 rfl) ?_
            exact TL.nil fun a h => ⟨h.weaken ⟨rfl, rfl, rfl, rfl, rfl, rfl, trivial⟩, Ext.refl _⟩
        intro w212 hx213
        have he214 : Ext w w212 := Ext.trans he209 hx213
        have hb8 := Box.ext hb8 hx213
        have hb53 := Box.ext hb53 hx213
        have hb80 := Box.ext hb80 hx213
        have hb107 := Box.ext hb107 hx213
        have hs25 := ownR.ext hs25 hx213
        have hs27 := ownR.ext hs27 hx213
        have hs40 := ownR.ext hs40 hx213
        have hs42 := ownR.ext hs42 hx213
        have hs178 := ownR.ext hs178 hx213
        have hs179 := ownR.ext hs179 hx213
        have hs94 := ownR.ext hs94 hx213
        have hs96 := ownR.ext hs96 hx213
        have hs157 := ownR.ext hs157 hx213
        have hs159 := ownR.ext hs159 hx213
        have hz215 := (hx213).size
        refine TL.done ?_
        refine NX.seq ?_
        refine WC.cond rfl ?_ ?_
        · intro hc216
          replace hF := bif_t hc216 hF
          refine WC.seq ?_
          refine WC.region ?_
          refine TL.yld rfl rfl (yld_assign rfl rfl) ?_
          refine TL.done ?_
          refine NX.seq ?_
          refine WC.ret' ?_
          refine NX.then_r ?_
          obtain rfl := Option.some.inj hF
          exact NX.end (rs := [.tmp 4]) (vs := [.bool false]) rfl ⟨rfl, trivial⟩ ⟨_, rfl, rfl, he214⟩
        · intro hc217
          replace hF := bif_f hc217 hF
          refine WC.skip' ?_
          refine NX.seq ?_
          refine WC.seq ?_
          refine WC.region ?_
          refine TL.yld rfl rfl (yld_assign rfl rfl) ?_
          refine TL.done ?_
          refine NX.seq ?_
          refine WC.seq ?_
          refine WC.region ?_
          refine TL.yld rfl rfl (yld_loadN (us := [v93, v95]) rfl ag_38 rfl (Box.cells hb107) cn_38) ?_
          refine TL.yld rfl rfl (yld_move rfl rfl) ?_
          obtain ⟨r218, hr219, hF⟩ := bsome hF
          refine TL.eff rfl rfl (eff_call rfl gf_43 rfl (W_laws_markLatchSystem hr219 hs94 hs96 hp101)) ?_
          rintro _ w220 ⟨rfl, hs222, hs223, hx221⟩
          have he224 : Ext w w220 := Below.trans he214 (But.below hx221 (all_por (all_pO (fun g hg => by have := hbd98 g hg; omega)) (all_pO (fun g hg => by have := hbd100 g hg; omega))) (he214).size)
          have hb8 := Box.but hb8 hx221 (all_por (all_pO (fun g hg => by have := hbd98 g hg; omega)) (all_pO (fun g hg => by have := hbd100 g hg; omega)))
          have hb53 := Box.but hb53 hx221 (all_por (all_pO (fun g hg => by have := hbd98 g hg; omega)) (all_pO (fun g hg => by have := hbd100 g hg; omega)))
          have hb80 := Box.but hb80 hx221 (all_por (all_pO (fun g hg => by have := hbd98 g hg; omega)) (all_pO (fun g hg => by have := hbd100 g hg; omega)))
          have hb107 := Box.but hb107 hx221 (all_por (all_pO (fun g hg => by have := hbd98 g hg; omega)) (all_pO (fun g hg => by have := hbd100 g hg; omega)))
          have hp225 : ∀ g q, v93.ownBlock = some g → v24.ownBlock = some q → g ≠ q := (fun g q hg hq => by have := hbd98 g hg; have := hbd29 q hq; omega)
          have hp226 : ∀ g q, v95.ownBlock = some g → v24.ownBlock = some q → g ≠ q := (fun g q hg hq => by have := hbd100 g hg; have := hbd29 q hq; omega)
          have hs25 := ownR.butF hs25 hx221 (all_por (all_pO (fun g hg q hq => hp225 g q hg hq)) (all_pO (fun g hg q hq => hp226 g q hg hq)))
          have hp227 : ∀ g q, v93.ownBlock = some g → v26.ownBlock = some q → g ≠ q := (fun g q hg hq => by have := hbd98 g hg; have := hbd31 q hq; omega)
          have hp228 : ∀ g q, v95.ownBlock = some g → v26.ownBlock = some q → g ≠ q := (fun g q hg hq => by have := hbd100 g hg; have := hbd31 q hq; omega)
          have hs27 := ownR.butF hs27 hx221 (all_por (all_pO (fun g hg q hq => hp227 g q hg hq)) (all_pO (fun g hg q hq => hp228 g q hg hq)))
          have hp229 : ∀ g q, v93.ownBlock = some g → v39.ownBlock = some q → g ≠ q := (fun g q hg hq => by have := hbd98 g hg; have := hbd44 q hq; omega)
          have hp230 : ∀ g q, v95.ownBlock = some g → v39.ownBlock = some q → g ≠ q := (fun g q hg hq => by have := hbd100 g hg; have := hbd44 q hq; omega)
          have hs40 := ownR.butF hs40 hx221 (all_por (all_pO (fun g hg q hq => hp229 g q hg hq)) (all_pO (fun g hg q hq => hp230 g q hg hq)))
          have hp231 : ∀ g q, v93.ownBlock = some g → v41.ownBlock = some q → g ≠ q := (fun g q hg hq => by have := hbd98 g hg; have := hbd46 q hq; omega)
          have hp232 : ∀ g q, v95.ownBlock = some g → v41.ownBlock = some q → g ≠ q := (fun g q hg hq => by have := hbd100 g hg; have := hbd46 q hq; omega)
          have hs42 := ownR.butF hs42 hx221 (all_por (all_pO (fun g hg q hq => hp231 g q hg hq)) (all_pO (fun g hg q hq => hp232 g q hg hq)))
          have hp233 : ∀ g q, v93.ownBlock = some g → v66.ownBlock = some q → g ≠ q := (fun g q hg hq => by have := hbd98 g hg; have := hbd71 q hq; omega)
          have hp234 : ∀ g q, v95.ownBlock = some g → v66.ownBlock = some q → g ≠ q := (fun g q hg hq => by have := hbd100 g hg; have := hbd71 q hq; omega)
          have hs178 := ownR.butF hs178 hx221 (all_por (all_pO (fun g hg q hq => hp233 g q hg hq)) (all_pO (fun g hg q hq => hp234 g q hg hq)))
          have hp235 : ∀ g q, v93.ownBlock = some g → v68.ownBlock = some q → g ≠ q := (fun g q hg hq => by have := hbd98 g hg; have := hbd73 q hq; omega)
          have hp236 : ∀ g q, v95.ownBlock = some g → v68.ownBlock = some q → g ≠ q := (fun g q hg hq => by have := hbd100 g hg; have := hbd73 q hq; omega)
          have hs179 := ownR.butF hs179 hx221 (all_por (all_pO (fun g hg q hq => hp235 g q hg hq)) (all_pO (fun g hg q hq => hp236 g q hg hq)))
          have hp237 : ∀ g q, v93.ownBlock = some g → v156.ownBlock = some q → g ≠ q := (fun g q hg hq => by have := hbd98 g hg; have := hbd161 q hq; omega)
          have hp238 : ∀ g q, v95.ownBlock = some g → v156.ownBlock = some q → g ≠ q := (fun g q hg hq => by have := hbd100 g hg; have := hbd161 q hq; omega)
          have hs157 := ownR.butF hs157 hx221 (all_por (all_pO (fun g hg q hq => hp237 g q hg hq)) (all_pO (fun g hg q hq => hp238 g q hg hq)))
          have hp239 : ∀ g q, v93.ownBlock = some g → v158.ownBlock = some q → g ≠ q := (fun g q hg hq => by have := hbd98 g hg; have := hbd163 q hq; omega)
          have hp240 : ∀ g q, v95.ownBlock = some g → v158.ownBlock = some q → g ≠ q := (fun g q hg hq => by have := hbd100 g hg; have := hbd163 q hq; omega)
          have hs159 := ownR.butF hs159 hx221 (all_por (all_pO (fun g hg q hq => hp239 g q hg hq)) (all_pO (fun g hg q hq => hp240 g q hg hq)))
          have hz241 := (hx221).size
          refine TL.yld rfl rfl (yld_assign rfl rfl) ?_
          refine TL.done ?_
          refine NX.seq ?_
          refine WC.seq ?_
          refine WC.region ?_
          refine TL.yld rfl rfl (yld_assign rfl rfl) ?_
          refine TL.done ?_
          refine NX.seq ?_
          refine WC.seq ?_
          refine WC.region ?_
          refine TL.yld rfl rfl (yld_loadN (us := [v93, v95]) rfl ag_38 rfl (Box.cells hb107) cn_38) ?_
          refine TL.yld rfl rfl (yld_move rfl rfl) ?_
          obtain ⟨r242, hr243, hF⟩ := bsome hF
          refine TL.eff rfl rfl (eff_call rfl gf_44 rfl (W_laws_heldLatchSystem hr243 (ownR.slf hs222 (Nat.zero_le _) (Nat.le_refl _)) (ownR.slf hs223 (Nat.zero_le _) (Nat.le_refl _)))) ?_
          rintro _ w244 ⟨rfl, hx245⟩
          have he246 : Ext w w244 := Ext.trans he224 hx245
          have hb8 := Box.ext hb8 hx245
          have hb53 := Box.ext hb53 hx245
          have hb80 := Box.ext hb80 hx245
          have hb107 := Box.ext hb107 hx245
          have hs25 := ownR.ext hs25 hx245
          have hs27 := ownR.ext hs27 hx245
          have hs40 := ownR.ext hs40 hx245
          have hs42 := ownR.ext hs42 hx245
          have hs178 := ownR.ext hs178 hx245
          have hs179 := ownR.ext hs179 hx245
          have hs222 := ownR.ext hs222 hx245
          have hs223 := ownR.ext hs223 hx245
          have hs157 := ownR.ext hs157 hx245
          have hs159 := ownR.ext hs159 hx245
          have hz247 := (hx245).size
          refine TL.yld rfl rfl (yld_assign rfl rfl) ?_
          refine TL.done ?_
          refine NX.seq ?_
          refine WC.seq ?_
          refine WC.seq ?_
          refine WC.region ?_
          refine TL.yld rfl rfl (yld_move rfl rfl) ?_
          refine TL.yld rfl rfl (yld_lss rfl rfl rfl) ?_
          refine TL.done ?_
          refine NX.seq ?_
          refine WC.cond rfl ?_ ?_
          · intro hc248
            replace hF := bif_t hc248 hF
            refine WC.seq ?_
            refine WC.region ?_
            refine TL.yld rfl rfl (yld_assign rfl rfl) ?_
            refine TL.done ?_
            refine NX.seq ?_
            refine WC.ret' ?_
            refine NX.then_r ?_
            obtain rfl := Option.some.inj hF
            exact NX.end (rs := [.tmp 4]) (vs := [.bool false]) rfl ⟨rfl, trivial⟩ ⟨_, rfl, rfl, he246⟩
          · intro hc249
            replace hF := bif_f hc249 hF
            refine WC.skip' ?_
            refine NX.seq ?_
            refine WC.seq ?_
            refine WC.seq ?_
            refine WC.region ?_
            refine TL.yld rfl rfl (yld_move rfl rfl) ?_
            refine TL.yld rfl rfl (yld_move rfl rfl) ?_
            refine TL.yld rfl rfl (yld_neq rfl rfl rfl) ?_
            refine TL.done ?_
            refine NX.seq ?_
            refine WC.cond rfl ?_ ?_
            · intro hc250
              replace hF := bif_t hc250 hF
              refine WC.seq ?_
              refine WC.region ?_
              refine TL.yld rfl rfl (yld_assign rfl rfl) ?_
              refine TL.done ?_
              refine NX.seq ?_
              refine WC.ret' ?_
              refine NX.then_r ?_
              obtain rfl := Option.some.inj hF
              exact NX.end (rs := [.tmp 4]) (vs := [.bool false]) rfl ⟨rfl, trivial⟩ ⟨_, rfl, rfl, he246⟩
            · intro hc251
              replace hF := bif_f hc251 hF
              refine WC.skip' ?_
              refine NX.seq ?_
              refine WC.seq ?_
              refine WC.region ?_
              refine TL.yld rfl rfl (yld_loadN (us := [v1, v3]) rfl ag_32 rfl (Box.cells hb8) cn_32) ?_
              obtain ⟨r252, hr253, hF⟩ := bsome hF
              refine TL.eff rfl rfl (eff_call rfl gf_20 rfl (W_laws_toLatchSystem hr253 ((slRep.old ha2 he246 (Nat.le_refl _)).wide (Nat.le_refl _) (he246).size) ((slRep.old ha4 he246 (Nat.le_refl _)).wide (Nat.le_refl _) (he246).size))) ?_
              rintro _ w254 ⟨v256, v258, rfl, hs257, hs259, hp264, hx255⟩
              have he265 : Ext w w254 := Ext.trans he246 hx255
              have hb8 := Box.ext hb8 hx255
              have hb53 := Box.ext hb53 hx255
              have hb80 := Box.ext hb80 hx255
              have hb107 := Box.ext hb107 hx255
              have hs25 := ownR.ext hs25 hx255
              have hs27 := ownR.ext hs27 hx255
              have hs40 := ownR.ext hs40 hx255
              have hs42 := ownR.ext hs42 hx255
              have hs178 := ownR.ext hs178 hx255
              have hs179 := ownR.ext hs179 hx255
              have hs222 := ownR.ext hs222 hx255
              have hs223 := ownR.ext hs223 hx255
              have hs157 := ownR.ext hs157 hx255
              have hs159 := ownR.ext hs159 hx255
              have hz266 := (hx255).size
              have hbd261 := ownR.blk hs257
              have hbd263 := ownR.blk hs259
              refine TL.yld rfl rfl (yld_move rfl rfl) ?_
              obtain ⟨r267, hr268, hF⟩ := bsome hF
              refine TL.eff rfl rfl (eff_call rfl gf_42 rfl (W_impl_ShiftLinks hr268 (ownR.slf hs257 (Nat.zero_le _) (Nat.le_refl _)) (ownR.slf hs259 (Nat.zero_le _) (Nat.le_refl _)))) ?_
              rintro _ w269 ⟨v271, v273, rfl, hs272, hs274, hp279, hx270⟩
              have he280 : Ext w w269 := Ext.trans he265 hx270
              have hb8 := Box.ext hb8 hx270
              have hb53 := Box.ext hb53 hx270
              have hb80 := Box.ext hb80 hx270
              have hb107 := Box.ext hb107 hx270
              have hs25 := ownR.ext hs25 hx270
              have hs27 := ownR.ext hs27 hx270
              have hs40 := ownR.ext hs40 hx270
              have hs42 := ownR.ext hs42 hx270
              have hs178 := ownR.ext hs178 hx270
              have hs179 := ownR.ext hs179 hx270
              have hs222 := ownR.ext hs222 hx270
              have hs223 := ownR.ext hs223 hx270
              have hs157 := ownR.ext hs157 hx270
              have hs159 := ownR.ext hs159 hx270
              have hs257 := ownR.ext hs257 hx270
              have hs259 := ownR.ext hs259 hx270
              have hz281 := (hx270).size
              have hbd276 := ownR.blk hs272
              have hbd278 := ownR.blk hs274
              refine TL.yld rfl rfl (yld_move rfl rfl) ?_
              refine TL.yld rfl rfl (yld_extract rfl rfl rfl) ?_
              refine TL.yld rfl rfl (yld_extract rfl rfl rfl) ?_
              refine TL.eff rfl rfl (eff_alloc rfl zn_38) ?_
              rintro _ w283 ⟨b282, rfl, hn284⟩
              obtain ⟨hn284e, hn284s, hn284x, hb285⟩ := hn284
              have hb285 : Box w283 b282 [.slice none 0 0, .slice none 0 0] 38 := hb285
              have he287 : Ext w w283 := Ext.trans he280 hn284x
              have hb8 := Box.ext hb8 hn284x
              have hb53 := Box.ext hb53 hn284x
              have hb80 := Box.ext hb80 hn284x
              have hb107 := Box.ext hb107 hn284x
              have hs25 := ownR.ext hs25 hn284x
              have hs27 := ownR.ext hs27 hn284x
              have hs40 := ownR.ext hs40 hn284x
              have hs42 := ownR.ext hs42 hn284x
              have hs178 := ownR.ext hs178 hn284x
              have hs179 := ownR.ext hs179 hn284x
              have hs222 := ownR.ext hs222 hn284x
              have hs223 := ownR.ext hs223 hn284x
              have hs157 := ownR.ext hs157 hn284x
              have hs159 := ownR.ext hs159 hn284x
              have hs257 := ownR.ext hs257 hn284x
              have hs259 := ownR.ext hs259 hn284x
              have hs272 := ownR.ext hs272 hn284x
              have hs274 := ownR.ext hs274 hn284x
              have hz288 := (hn284x).size
              have hlo286 : w.heap.size ≤ b282 := by rw [hn284e]; exact (he280).size
              refine TL.eff rfl rfl (eff_store rfl rfl rfl hb285 cn_38 (allc_cons (slRep.one (ownR.slf hs272 (Nat.le_refl _) (Nat.le_refl _))) (allc_cons (slRep.one (ownR.slf hs274 (Nat.le_refl _) (Nat.le_refl _))) allc_nil)) rfl) ?_
              rintro _ w289 ⟨hu290, hb291⟩
              have he292 : Ext w w289 := Below.trans he287 (Upd.below hu290 (by omega))
              have hb8 := Box.upd hb8 hu290 (by omega)
              have hb53 := Box.upd hb53 hu290 (by omega)
              have hb80 := Box.upd hb80 hu290 (by omega)
              have hb107 := Box.upd hb107 hu290 (by omega)
              have hs25 := ownR.upd hs25 hu290 (fun g hg => by have := hbd29 g hg; omega)
              have hs27 := ownR.upd hs27 hu290 (fun g hg => by have := hbd31 g hg; omega)
              have hs40 := ownR.upd hs40 hu290 (fun g hg => by have := hbd44 g hg; omega)
              have hs42 := ownR.upd hs42 hu290 (fun g hg => by have := hbd46 g hg; omega)
              have hs178 := ownR.upd hs178 hu290 (fun g hg => by have := hbd71 g hg; omega)
              have hs179 := ownR.upd hs179 hu290 (fun g hg => by have := hbd73 g hg; omega)
              have hs222 := ownR.upd hs222 hu290 (fun g hg => by have := hbd98 g hg; omega)
              have hs223 := ownR.upd hs223 hu290 (fun g hg => by have := hbd100 g hg; omega)
              have hs157 := ownR.upd hs157 hu290 (fun g hg => by have := hbd161 g hg; omega)
              have hs159 := ownR.upd hs159 hu290 (fun g hg => by have := hbd163 g hg; omega)
              have hs257 := ownR.upd hs257 hu290 (fun g hg => by have := hbd261 g hg; omega)
              have hs259 := ownR.upd hs259 hu290 (fun g hg => by have := hbd263 g hg; omega)
              have hs272 := ownR.upd hs272 hu290 (fun g hg => by have := hbd276 g hg; omega)
              have hs274 := ownR.upd hs274 hu290 (fun g hg => by have := hbd278 g hg; omega)
              have hz293 := (hu290).size
              have hb285 : Box w289 b282 [v271, v273] 38 := hb291
              refine TL.yld rfl rfl (yld_assign rfl rfl) ?_
              refine TL.done ?_
              refine NX.seq ?_
              refine WC.seq ?_
              refine WC.seq ?_
              refine WC.region ?_
              refine TL.yld rfl rfl (yld_loadN (us := [v271, v273]) rfl ag_38 rfl (Box.cells hb285) cn_38) ?_
              refine TL.yld rfl rfl (yld_loadN (us := [v39, v41]) rfl ag_38 rfl (Box.cells hb53) cn_38) ?_
              obtain ⟨r294, hr295, hF⟩ := bsome hF
              refine TL.eff rfl rfl (eff_call rfl gf_22 rfl (W_laws_eqLatchSystem hr295 (ownR.slf hs272 (Nat.zero_le _) (Nat.le_refl _)) (ownR.slf hs274 (Nat.zero_le _) (Nat.le_refl _)) (ownR.slf hs40 (Nat.zero_le _) (Nat.le_refl _)) (ownR.slf hs42 (Nat.zero_le _) (Nat.le_refl _)))) ?_
              rintro _ w296 ⟨rfl, hx297⟩
              have he298 : Ext w w296 := Ext.trans he292 hx297
              have hb8 := Box.ext hb8 hx297
              have hb53 := Box.ext hb53 hx297
              have hb80 := Box.ext hb80 hx297
              have hb107 := Box.ext hb107 hx297
              have hb285 := Box.ext hb285 hx297
              have hs25 := ownR.ext hs25 hx297
              have hs27 := ownR.ext hs27 hx297
              have hs40 := ownR.ext hs40 hx297
              have hs42 := ownR.ext hs42 hx297
              have hs178 := ownR.ext hs178 hx297
              have hs179 := ownR.ext hs179 hx297
              have hs222 := ownR.ext hs222 hx297
              have hs223 := ownR.ext hs223 hx297
              have hs157 := ownR.ext hs157 hx297
              have hs159 := ownR.ext hs159 hx297
              have hs257 := ownR.ext hs257 hx297
              have hs259 := ownR.ext hs259 hx297
              have hs272 := ownR.ext hs272 hx297
              have hs274 := ownR.ext hs274 hx297
              have hz299 := (hx297).size
              refine TL.yld rfl rfl (yld_not rfl rfl) ?_
              refine TL.yld rfl rfl (yld_move rfl rfl) ?_
              refine TL.cut 4 [(9, .pointer (some ⟨b104, 0, none⟩)), (12, .int .i64 r218.1), (92, .bool (((!r294) || ((r267.2 != r35.2)))))] (fun w' => Ext w296 w') ?_ ?_
              · rcases Bool.eq_false_or_eq_true (!r294) with hg300 | hg300
                ·
                  refine TL.gnu (j := 4) (t := 88) rfl rfl rfl hg300 rfl ?_
                  refine TL.gnu (j := 4) (t := 88) rfl rfl rfl hg300 rfl ?_
                  refine TL.gnu (j := 4) (t := 88) rfl rfl rfl hg300 rfl ?_
                  refine TL.yld rfl rfl (yld_or_t (b2 := (r267.2 != r35.2)) rfl rfl hg300 rfl) ?_
                  exact TL.nil fun a h => ⟨h.weaken ⟨rfl, rfl, rfl, trivial⟩, Ext.refl _⟩
                ·
                  refine TL.gy (j := 4) (t := 88) rfl rfl rfl hg300 rfl (yld_move rfl rfl) ?_
                  refine TL.gy (j := 4) (t := 88) rfl rfl rfl hg300 rfl (yld_move rfl rfl) ?_
                  refine TL.gy (j := 4) (t := 88) rfl rfl rfl hg300 rfl (yld_neq rfl rfl rfl) ?_
                  refine TL.yld rfl rfl (yld_or_f rfl rfl hg300 rfl) ?_
                  exact TL.nil fun a h => ⟨h.weaken ⟨rfl, rfl, rfl, trivial⟩, Ext.refl _⟩
              intro w301 hx302
              have he303 : Ext w w301 := Ext.trans he298 hx302
              have hb8 := Box.ext hb8 hx302
              have hb53 := Box.ext hb53 hx302
              have hb80 := Box.ext hb80 hx302
              have hb107 := Box.ext hb107 hx302
              have hb285 := Box.ext hb285 hx302
              have hs25 := ownR.ext hs25 hx302
              have hs27 := ownR.ext hs27 hx302
              have hs40 := ownR.ext hs40 hx302
              have hs42 := ownR.ext hs42 hx302
              have hs178 := ownR.ext hs178 hx302
              have hs179 := ownR.ext hs179 hx302
              have hs222 := ownR.ext hs222 hx302
              have hs223 := ownR.ext hs223 hx302
              have hs157 := ownR.ext hs157 hx302
              have hs159 := ownR.ext hs159 hx302
              have hs257 := ownR.ext hs257 hx302
              have hs259 := ownR.ext hs259 hx302
              have hs272 := ownR.ext hs272 hx302
              have hs274 := ownR.ext hs274 hx302
              have hz304 := (hx302).size
              refine TL.done ?_
              refine NX.seq ?_
              refine WC.cond rfl ?_ ?_
              · intro hc305
                replace hF := bif_t hc305 hF
                refine WC.seq ?_
                refine WC.region ?_
                refine TL.yld rfl rfl (yld_assign rfl rfl) ?_
                refine TL.done ?_
                refine NX.seq ?_
                refine WC.ret' ?_
                refine NX.then_r ?_
                obtain rfl := Option.some.inj hF
                exact NX.end (rs := [.tmp 4]) (vs := [.bool false]) rfl ⟨rfl, trivial⟩ ⟨_, rfl, rfl, he303⟩
              · intro hc306
                replace hF := bif_f hc306 hF
                refine WC.skip' ?_
                refine NX.seq ?_
                refine WC.seq ?_
                refine WC.region ?_
                refine TL.yld rfl rfl (yld_assign rfl rfl) ?_
                refine TL.done ?_
                refine NX.seq ?_
                refine WC.seq ?_
                refine WC.region ?_
                refine TL.yld rfl rfl (yld_loadN (us := [v93, v95]) rfl ag_38 rfl (Box.cells hb107) cn_38) ?_
                refine TL.yld rfl rfl (yld_move rfl rfl) ?_
                obtain ⟨r307, hr308, hF⟩ := bsome hF
                refine TL.eff rfl rfl (eff_call rfl gf_44 rfl (W_laws_heldLatchSystem hr308 (ownR.slf hs222 (Nat.zero_le _) (Nat.le_refl _)) (ownR.slf hs223 (Nat.zero_le _) (Nat.le_refl _)))) ?_
                rintro _ w309 ⟨rfl, hx310⟩
                have he311 : Ext w w309 := Ext.trans he303 hx310
                have hb8 := Box.ext hb8 hx310
                have hb53 := Box.ext hb53 hx310
                have hb80 := Box.ext hb80 hx310
                have hb107 := Box.ext hb107 hx310
                have hb285 := Box.ext hb285 hx310
                have hs25 := ownR.ext hs25 hx310
                have hs27 := ownR.ext hs27 hx310
                have hs40 := ownR.ext hs40 hx310
                have hs42 := ownR.ext hs42 hx310
                have hs178 := ownR.ext hs178 hx310
                have hs179 := ownR.ext hs179 hx310
                have hs222 := ownR.ext hs222 hx310
                have hs223 := ownR.ext hs223 hx310
                have hs157 := ownR.ext hs157 hx310
                have hs159 := ownR.ext hs159 hx310
                have hs257 := ownR.ext hs257 hx310
                have hs259 := ownR.ext hs259 hx310
                have hs272 := ownR.ext hs272 hx310
                have hs274 := ownR.ext hs274 hx310
                have hz312 := (hx310).size
                refine TL.yld rfl rfl (yld_assign rfl rfl) ?_
                refine TL.done ?_
                refine NX.seq ?_
                refine WC.seq ?_
                refine WC.seq ?_
                refine WC.region ?_
                refine TL.yld rfl rfl (yld_move rfl rfl) ?_
                refine TL.yld rfl rfl (yld_lss rfl rfl rfl) ?_
                refine TL.done ?_
                refine NX.seq ?_
                refine WC.cond rfl ?_ ?_
                · intro hc313
                  replace hF := bif_t hc313 hF
                  refine WC.seq ?_
                  refine WC.region ?_
                  refine TL.yld rfl rfl (yld_assign rfl rfl) ?_
                  refine TL.done ?_
                  refine NX.seq ?_
                  refine WC.ret' ?_
                  refine NX.then_r ?_
                  obtain rfl := Option.some.inj hF
                  exact NX.end (rs := [.tmp 4]) (vs := [.bool false]) rfl ⟨rfl, trivial⟩ ⟨_, rfl, rfl, he311⟩
                · intro hc314
                  replace hF := bif_f hc314 hF
                  refine WC.skip' ?_
                  refine NX.seq ?_
                  refine WC.seq ?_
                  refine WC.seq ?_
                  refine WC.region ?_
                  refine TL.yld rfl rfl (yld_move rfl rfl) ?_
                  refine TL.yld rfl rfl (yld_move rfl rfl) ?_
                  refine TL.yld rfl rfl (yld_neq rfl rfl rfl) ?_
                  refine TL.done ?_
                  refine NX.seq ?_
                  refine WC.cond rfl ?_ ?_
                  · intro hc315
                    replace hF := bif_t hc315 hF
                    refine WC.seq ?_
                    refine WC.region ?_
                    refine TL.yld rfl rfl (yld_assign rfl rfl) ?_
                    refine TL.done ?_
                    refine NX.seq ?_
                    refine WC.ret' ?_
                    refine NX.then_r ?_
                    obtain rfl := Option.some.inj hF
                    exact NX.end (rs := [.tmp 4]) (vs := [.bool false]) rfl ⟨rfl, trivial⟩ ⟨_, rfl, rfl, he311⟩
                  · intro hc316
                    replace hF := bif_f hc316 hF
                    refine WC.skip' ?_
                    refine NX.seq ?_
                    refine WC.seq ?_
                    refine WC.region ?_
                    refine TL.yld rfl rfl (yld_assign rfl rfl) ?_
                    refine TL.done ?_
                    refine NX.seq ?_
                    refine WC.ret' ?_
                    obtain rfl := Option.some.inj hF
                    exact NX.end (rs := [.tmp 4]) (vs := [.bool true]) rfl ⟨rfl, trivial⟩ ⟨_, rfl, rfl, he311⟩

theorem Z_LatchS {n : Nat} {a : List S_Latch} {left : Int} (hR : (fun xs => xs.length ≤ 9223372036854775807 ∧ ∀ x ∈ xs, R_Latch x) a) (h0 : 0 ≤ left) (h1 : left ≤ 1048576) (hn : 1048577 ≤ n) : ∃ r, F_laws_szLatchS n a left = some r ∧ r ≤ left ∧ (0 ≤ r → (fun xs => xs.length ≤ 1048576 ∧ ∀ x ∈ xs, SM_Latch x) a) := by
  have hl := hR.1
  rw [F_laws_szLatchS, wrap64 (by omega) (by omega)]
  by_cases h : left - (a.length : Int) < 0
  · rw [decide_eq_true h]; exact ⟨-1, rfl, by omega, fun h => by omega⟩
  · rw [decide_eq_false h]; exact ⟨_, rfl, by omega, fun _ => ⟨by omega, fun x _ => ⟨trivial, trivial⟩⟩⟩
theorem Z_LatchLinkS {n : Nat} {a : List S_LatchLink} {left : Int} (hR : (fun xs => xs.length ≤ 9223372036854775807 ∧ ∀ x ∈ xs, R_LatchLink x) a) (h0 : 0 ≤ left) (h1 : left ≤ 1048576) (hn : 1048577 ≤ n) : ∃ r, F_laws_szLatchLinkS n a left = some r ∧ r ≤ left ∧ (0 ≤ r → (fun xs => xs.length ≤ 1048576 ∧ ∀ x ∈ xs, SM_LatchLink x) a) := by
  have hl := hR.1
  rw [F_laws_szLatchLinkS, wrap64 (by omega) (by omega)]
  by_cases h : left - (a.length : Int) < 0
  · rw [decide_eq_true h]; exact ⟨-1, rfl, by omega, fun h => by omega⟩
  · rw [decide_eq_false h]; exact ⟨_, rfl, by omega, fun _ => ⟨by omega, fun x _ => ⟨trivial, trivial, trivial, trivial⟩⟩⟩
theorem Z_LatchSystem {n : Nat} {a : S_LatchSystem} {left : Int} (hR : R_LatchSystem a) (h0 : 0 ≤ left) (h1 : left ≤ 1048576) (hn : 1048577 ≤ n) : ∃ r, F_laws_szLatchSystem n a left = some r ∧ r ≤ left ∧ (0 ≤ r → SM_LatchSystem a) := by
  rw [F_laws_szLatchSystem]
  obtain ⟨r0, e0, l0, s0⟩ := Z_LatchS (n := n) hR.1 h0 h1 hn
  rw [e0, Option.bind_some]
  by_cases h_0 : r0 < 0
  · rw [decide_eq_true h_0]; exact ⟨-1, rfl, by omega, fun h => by omega⟩
  rw [decide_eq_false h_0, cond_false]
  obtain ⟨r1, e1, l1, s1⟩ := Z_LatchLinkS (n := n) hR.2 (show (0 : Int) ≤ r0 by omega) (by omega) hn
  rw [e1, Option.bind_some]
  by_cases h_1 : r1 < 0
  · rw [decide_eq_true h_1]; exact ⟨-1, rfl, by omega, fun h => by omega⟩
  rw [decide_eq_false h_1, cond_false]
  exact ⟨_, rfl, by omega, fun _ => ⟨s0 (by omega), s1 (by omega)⟩⟩
theorem T_Latch {n : Nat} {a : S_Latch} (h : SM_Latch a) (hn : 1048577 ≤ n) : F_laws_toLatch n a = some a := by
  rfl
theorem TL_LatchS {n : Nat} {a : List S_Latch} {k : Int → List S_Latch → Option (List S_Latch)} : ∀ (m : Nat) (i : Int) (l : List S_Latch), F_laws_toLatchS_L1 n a k m i l = cpL a (F_laws_toLatch n) k m i l
  | 0, _, _ => rfl
  | m + 1, i, l => by simp only [F_laws_toLatchS_L1_s, cpL_s, Option.bind_some, TL_LatchS (n := n) (a := a) (k := k) m]
theorem T_LatchS {n : Nat} {a : List S_Latch} (h : (fun xs => xs.length ≤ 1048576 ∧ ∀ x ∈ xs, SM_Latch x) a) (hn : 1048577 ≤ n) : F_laws_toLatchS n a = some a := by
  rw [F_laws_toLatchS, mkN_ok h.1 (by omega), Option.bind_some, TL_LatchS (n := n)]
  exact cpL_id (fun x hx => T_Latch (h.2 x hx) hn) h.1 hn
theorem T_LatchLink {n : Nat} {a : S_LatchLink} (h : SM_LatchLink a) (hn : 1048577 ≤ n) : F_laws_toLatchLink n a = some a := by
  rfl
theorem TL_LatchLinkS {n : Nat} {a : List S_LatchLink} {k : Int → List S_LatchLink → Option (List S_LatchLink)} : ∀ (m : Nat) (i : Int) (l : List S_LatchLink), F_laws_toLatchLinkS_L1 n a k m i l = cpL a (F_laws_toLatchLink n) k m i l
  | 0, _, _ => rfl
  | m + 1, i, l => by simp only [F_laws_toLatchLinkS_L1_s, cpL_s, Option.bind_some, TL_LatchLinkS (n := n) (a := a) (k := k) m]
theorem T_LatchLinkS {n : Nat} {a : List S_LatchLink} (h : (fun xs => xs.length ≤ 1048576 ∧ ∀ x ∈ xs, SM_LatchLink x) a) (hn : 1048577 ≤ n) : F_laws_toLatchLinkS n a = some a := by
  rw [F_laws_toLatchLinkS, mkN_ok h.1 (by omega), Option.bind_some, TL_LatchLinkS (n := n)]
  exact cpL_id (fun x hx => T_LatchLink (h.2 x hx) hn) h.1 hn
theorem T_LatchSystem {n : Nat} {a : S_LatchSystem} (h : SM_LatchSystem a) (hn : 1048577 ≤ n) : F_laws_toLatchSystem n a = some a := by
  rw [F_laws_toLatchSystem]; simp only [T_LatchS (h.1) hn, T_LatchLinkS (h.2) hn, Option.bind_some]
theorem E_Latch {n : Nat} {a : S_Latch} (h : SM_Latch a) (hn : 1048577 ≤ n) : F_laws_eqLatch n a a = some true := by
  simp [F_laws_eqLatch]
theorem EL_LatchS {n : Nat} {a b : List S_Latch} {k : Int → Option Bool} : ∀ (m : Nat) (i : Int), F_laws_eqLatchS_L1 n a b k m i = eqL a b (F_laws_eqLatch n) (some false) k m i
  | 0, _ => rfl
  | m + 1, i => by simp only [F_laws_eqLatchS_L1_s, eqL_s, Option.bind_some, bne, EL_LatchS (n := n) (a := a) (b := b) (k := k) m]
theorem E_LatchS {n : Nat} {a : List S_Latch} (h : (fun xs => xs.length ≤ 1048576 ∧ ∀ x ∈ xs, SM_Latch x) a) (hn : 1048577 ≤ n) : F_laws_eqLatchS n a a = some true := by
  rw [F_laws_eqLatchS, EL_LatchS (n := n)]
  have := eqL_same (f := F_laws_eqLatch n) (no := some false) (k := fun (i : Int) => some true) (fun x hx => E_Latch (h.2 x hx) hn) h.1 n 0 (by omega) (by omega)
  simpa using this
theorem E_LatchLink {n : Nat} {a : S_LatchLink} (h : SM_LatchLink a) (hn : 1048577 ≤ n) : F_laws_eqLatchLink n a a = some true := by
  simp [F_laws_eqLatchLink]
theorem EL_LatchLinkS {n : Nat} {a b : List S_LatchLink} {k : Int → Option Bool} : ∀ (m : Nat) (i : Int), F_laws_eqLatchLinkS_L1 n a b k m i = eqL a b (F_laws_eqLatchLink n) (some false) k m i
  | 0, _ => rfl
  | m + 1, i => by simp only [F_laws_eqLatchLinkS_L1_s, eqL_s, Option.bind_some, bne, EL_LatchLinkS (n := n) (a := a) (b := b) (k := k) m]
theorem E_LatchLinkS {n : Nat} {a : List S_LatchLink} (h : (fun xs => xs.length ≤ 1048576 ∧ ∀ x ∈ xs, SM_LatchLink x) a) (hn : 1048577 ≤ n) : F_laws_eqLatchLinkS n a a = some true := by
  rw [F_laws_eqLatchLinkS, EL_LatchLinkS (n := n)]
  have := eqL_same (f := F_laws_eqLatchLink n) (no := some false) (k := fun (i : Int) => some true) (fun x hx => E_LatchLink (h.2 x hx) hn) h.1 n 0 (by omega) (by omega)
  simpa using this
theorem E_LatchSystem {n : Nat} {a : S_LatchSystem} (h : SM_LatchSystem a) (hn : 1048577 ≤ n) : F_laws_eqLatchSystem n a a = some true := by
  simp [F_laws_eqLatchSystem, E_LatchS (h.1) hn, E_LatchLinkS (h.2) hn]
theorem M_LatchS {n : Nat} {a : List S_Latch} {k : Int} (h : a.length ≤ 1048576) (h0 : 0 ≤ k) (hk : k ≤ 1152921504606846976) (hn : 1048577 ≤ n) : ∃ r, F_laws_markLatchS n a k = some r ∧ k ≤ r.1 ∧ r.1 ≤ k + 67108864 ∧ F_laws_heldLatchS n r.2 k = some r.1 := by
  obtain ⟨b, h1, h2, h3⟩ := markL (LM := fun m k i l => F_laws_markLatchS_L1 (fun i8 i9 l10 => (some (i8, l10))) m k i l) 2 (fun k x => (S_Latch.mk (k) (k + 1))) (by omega) (fun m k i l hi hi2 k0 k1 => by
      rw [show k + ((2 : Nat) : Int) = k + 1 + 1 by omega]
      simp only [F_laws_markLatchS_L1_s, dltE hi, cond_true, getI_elE hi, getI_setE hi, Option.bind_some, Int.toNat_natCast, List.set_set, wSE hi2, wrap64 (x := k + 1) (by omega) (by omega), wrap64 (x := k + 1 + 1) (by omega) (by omega)]) (fun m k l => by simp only [F_laws_markLatchS_L1_s, dnlE, cond_false]) h h0 hk n 0 a (by omega) (by omega) rfl (fun j _ hj => by omega)
  refine ⟨(k + ((2 : Nat) : Int) * a.length, b), by rw [F_laws_markLatchS]; simpa using h1, by dsimp only; omega, by dsimp only; omega, ?_⟩
  have := heldL (LH := fun m k i => F_laws_heldLatchS_L1 b (fun i5 i6 => (some i5)) m k i) 2 (fun k (x : S_Latch) => (S_Latch.mk (k) (k + 1))) (by omega) (fun m k i hi x hx hi2 k0 k1 => by
      rw [show k + ((2 : Nat) : Int) = k + 1 + 1 by omega]
      simp only [F_laws_heldLatchS_L1_s, dltE hi, cond_true, getI_elE hi, hx, Option.bind_some, bne_self_eq_false, cond_false, wSE hi2, wrap64 (x := k + 1) (by omega) (by omega), wrap64 (x := k + 1 + 1) (by omega) (by omega)]) (fun m k => by simp only [F_laws_heldLatchS_L1_s, dnlE, cond_false]) (by omega) h0 hk h3 n 0 (by omega) (by omega)
  rw [h2] at this
  rw [F_laws_heldLatchS]; simpa using this
theorem M_LatchLinkS {n : Nat} {a : List S_LatchLink} {k : Int} (h : a.length ≤ 1048576) (h0 : 0 ≤ k) (hk : k ≤ 1152921504606846976) (hn : 1048577 ≤ n) : ∃ r, F_laws_markLatchLinkS n a k = some r ∧ k ≤ r.1 ∧ r.1 ≤ k + 67108864 ∧ F_laws_heldLatchLinkS n r.2 k = some r.1 := by
  obtain ⟨b, h1, h2, h3⟩ := markL (LM := fun m k i l => F_laws_markLatchLinkS_L1 (fun i8 i9 l10 => (some (i8, l10))) m k i l) 4 (fun k x => (S_LatchLink.mk (k) (k + 1) (k + 1 + 1) (k + 1 + 1 + 1))) (by omega) (fun m k i l hi hi2 k0 k1 => by
      rw [show k + ((4 : Nat) : Int) = k + 1 + 1 + 1 + 1 by omega]
      simp only [F_laws_markLatchLinkS_L1_s, dltE hi, cond_true, getI_elE hi, getI_setE hi, Option.bind_some, Int.toNat_natCast, List.set_set, wSE hi2, wrap64 (x := k + 1) (by omega) (by omega), wrap64 (x := k + 1 + 1) (by omega) (by omega), wrap64 (x := k + 1 + 1 + 1) (by omega) (by omega), wrap64 (x := k + 1 + 1 + 1 + 1) (by omega) (by omega)]) (fun m k l => by simp only [F_laws_markLatchLinkS_L1_s, dnlE, cond_false]) h h0 hk n 0 a (by omega) (by omega) rfl (fun j _ hj => by omega)
  refine ⟨(k + ((4 : Nat) : Int) * a.length, b), by rw [F_laws_markLatchLinkS]; simpa using h1, by dsimp only; omega, by dsimp only; omega, ?_⟩
  have := heldL (LH := fun m k i => F_laws_heldLatchLinkS_L1 b (fun i5 i6 => (some i5)) m k i) 4 (fun k (x : S_LatchLink) => (S_LatchLink.mk (k) (k + 1) (k + 1 + 1) (k + 1 + 1 + 1))) (by omega) (fun m k i hi x hx hi2 k0 k1 => by
      rw [show k + ((4 : Nat) : Int) = k + 1 + 1 + 1 + 1 by omega]
      simp only [F_laws_heldLatchLinkS_L1_s, dltE hi, cond_true, getI_elE hi, hx, Option.bind_some, bne_self_eq_false, cond_false, wSE hi2, wrap64 (x := k + 1) (by omega) (by omega), wrap64 (x := k + 1 + 1) (by omega) (by omega), wrap64 (x := k + 1 + 1 + 1) (by omega) (by omega), wrap64 (x := k + 1 + 1 + 1 + 1) (by omega) (by omega)]) (fun m k => by simp only [F_laws_heldLatchLinkS_L1_s, dnlE, cond_false]) (by omega) h0 hk h3 n 0 (by omega) (by omega)
  rw [h2] at this
  rw [F_laws_heldLatchLinkS]; simpa using this
theorem M_LatchSystem {n : Nat} {a : S_LatchSystem} {k : Int} (h : SM_LatchSystem a) (h0 : 0 ≤ k) (hk : k ≤ 1152921000000000000) (hn : 1048577 ≤ n) : ∃ r, F_laws_markLatchSystem n a k = some r ∧ k ≤ r.1 ∧ r.1 ≤ k + 134217728 ∧ F_laws_heldLatchSystem n (S_LatchSystem.mk r.2.1 r.2.2) k = some r.1 := by
  obtain ⟨r0, e0, l0, u0, g0⟩ := M_LatchS (n := n) (k := k) h.1.1 (by omega) (by omega) hn
  obtain ⟨r1, e1, l1, u1, g1⟩ := M_LatchLinkS (n := n) (k := r0.1) h.2.1 (by omega) (by omega) hn
  refine ⟨(r1.1, r0.2, r1.2), by rw [F_laws_markLatchSystem, e0, Option.bind_some, e1, Option.bind_some], by dsimp only; omega, by dsimp only; omega, ?_⟩
  rw [F_laws_heldLatchSystem]
  simp only [g0, decide_eq_false (show ¬ r0.1 < 0 by omega), g1, decide_eq_false (show ¬ r1.1 < 0 by omega), Option.bind_some, cond_false]
theorem Rd_2 : Rd Try.prog 2 (cInt .i64) (inK .i64) := Rd.int Try.underlying2
theorem Rd_109 : Rd Try.prog 109 C_Latch R_Latch := Rd.map (Rd.struct (fs := [_, _]) Try.underlying109 (by kernel_rfl) (RdF.cons Rd_2 rfl (by kernel_rfl) (RdF.one Rd_2 rfl (by kernel_rfl)))) (fun (x : S_Latch) => (x.Open, x.Close)) (fun p => (⟨p.1, p.2⟩ : S_Latch)) (fun _ => rfl)
theorem Rd_29 : Rd Try.prog 29 (cSl C_Latch) (fun xs => xs.length ≤ 9223372036854775807 ∧ ∀ x ∈ xs, R_Latch x) := Rd.slice Try.underlying29 (by kernel_rfl) rfl Rd_109
theorem Rd_111 : Rd Try.prog 111 C_LatchLink R_LatchLink := Rd.map (Rd.struct (fs := [_, _, _, _]) Try.underlying111 (by kernel_rfl) (RdF.cons Rd_2 rfl (by kernel_rfl) (RdF.cons Rd_2 rfl (by kernel_rfl) (RdF.cons Rd_2 rfl (by kernel_rfl) (RdF.one Rd_2 rfl (by kernel_rfl)))))) (fun (x : S_LatchLink) => (x.From, x.To, x.Delay, x.Shift)) (fun p => (⟨p.1, p.2.1, p.2.2.1, p.2.2.2⟩ : S_LatchLink)) (fun _ => rfl)
theorem Rd_30 : Rd Try.prog 30 (cSl C_LatchLink) (fun xs => xs.length ≤ 9223372036854775807 ∧ ∀ x ∈ xs, R_LatchLink x) := Rd.slice Try.underlying30 (by kernel_rfl) rfl Rd_111
theorem Rd_32 : Rd Try.prog 32 C_LatchSystem R_LatchSystem := Rd.map (Rd.struct (fs := [_, _]) Try.underlying32 (by kernel_rfl) (RdF.cons Rd_29 rfl (by kernel_rfl) (RdF.one Rd_30 rfl (by kernel_rfl)))) (fun (x : S_LatchSystem) => (x.Latches, x.Links)) (fun p => (⟨p.1, p.2⟩ : S_LatchSystem)) (fun _ => rfl)
end Go.Proofs.Ytmhmpfckdhiijaa
